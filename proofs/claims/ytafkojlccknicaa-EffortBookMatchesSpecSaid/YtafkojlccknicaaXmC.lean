/-
  CheckCurve of the reference; less, sized, two.
-/
import Derived.Test.YtafkojlccknicaaXmA
import Derived.Test.YtafkojlccknicaaXmB

namespace Go.Proofs.Ytafkojlccknicaa
open Go Go.RowKit Hx
set_option linter.unusedVariables false
set_option linter.unusedSimpArgs false
set_option maxRecDepth 8000
theorem bErr_q (b : BestR) : bErr b = if b.found = false then (if b.sum = 0 ∧ b.at_ = 0 then 0 else 2) else if b.sum < 0 ∨ b.size * 1000000000 < b.sum ∨ b.at_ < 0 ∨ 1000000 - b.size < b.at_ then 9 else 0 := by
  unfold bErr
  by_cases h : b.found = false
  · rw [if_pos h, if_pos h]
  · rw [if_neg h, if_neg h]
    by_cases h2 : 0 ≤ b.sum ∧ b.sum ≤ b.size * 1000000000 ∧ 0 ≤ b.at_ ∧ b.at_ ≤ 1000000 - b.size
    · rw [if_pos h2, if_neg (by omega)]
    · rw [if_neg h2, if_pos (by omega)]
def cmpI (x y : Int) : Int := if x < y then -1 else if y < x then 1 else 0
theorem ref4_CheckCurve (a : Option Addr) (n c : Nat) (xs : List BestR) (w : World) (hl : Rd encBest w.heap.size w a n c xs) (hn : n ≤ 4398046511104) :
    Calls Try.prog 53 #[.slice a n c] w fun e w' => e = .returned (.int .i64 (chkC xs)) ∧ Below w.heap.size w w' := by
  obtain rfl := hl.len
  refine enterQ (N := 54) (C := fun _ => True) (H := []) (B := w.heap.size) (args := [_]) Try.func53 rfl rfl rfl (Nat.le_refl _) (Sat.nil _ _) fun Q hQ => ?_
  refine wp_seq' fun K1 hK1 => ?_
  refine wp_reg ?_
  refine ol_r (r_assign rfl) rfl ?_
  refine ol_nil (to_k0 (fun _ _ h => h) (hK1 _ _ _ _ _ ?_))
  clear hK1
  refine wp_seq' fun K2 hK2 => ?_
  refine wp_seq' fun K3 hK3 => ?_
  refine wp_reg ?_
  refine ol_r (r_move rfl) rfl ?_
  refine ol_call rfl rfl cb101 rfl (fun w1 hb1 hs1 hB1 => Calls.mono (ref4_sizesOf _ _ _ xs _ (hl.at hb1 hB1) hn) ?_)
  rintro e w2 ⟨a7, n7, c7, rfl, hf7⟩
  refine After.fresh (id := 7) rfl hb1 hs1 hB1 hf7 ?_
  have hl7 := hf7.len; clear hf7 hB1 hs1 hb1 w2 w1
  refine ol_call rfl rfl cb34 rfl (fun w1 hb1 hs1 hB1 => Calls.mono (ref_CheckSizes _ _ _ (szs xs) _ (Sat.rd hs1 (E := encI) (id := 7) rfl rfl)) ?_)
  rintro e w2 ⟨rfl, hb2⟩
  refine After.below rfl hb1 hs1 hB1 hb2 ?_
  clear hb2 hB1 hs1 hb1 w2 w1
  refine ol_r (r_assign rfl) rfl ?_
  refine ol_nil (to_k0 (fun _ _ h => h) (hK3 _ _ _ _ _ ?_))
  clear hK3
  refine wp_seq' fun K4 hK4 => ?_
  refine wp_reg ?_
  refine ol_r (r_move rfl) rfl ?_
  refine ol_r (r_neq rfl rfl) rfl ?_
  refine ol_nil (to_k0 (fun _ _ h => h) (hK4 _ _ _ _ _ ?_))
  clear hK4
  first | refine wp_condD rfl (fun hc10 => ?_) (fun hc10 => ?_) | refine wp_condN rfl (fun hc10 => ?_) (fun hc10 => ?_) | refine wp_condNB rfl (fun hc10 => ?_) (fun hc10 => ?_) | refine wp_cond' rfl (fun hc10 => ?_) (fun hc10 => ?_)
  ·refine wp_seq' fun K5 hK5 => ?_
   refine wp_reg ?_
   refine ol_r (r_move rfl) rfl ?_
   refine ol_r (r_assign rfl) rfl ?_
   refine ol_nil (to_k0 (fun _ _ h => h) (hK5 _ _ _ _ _ ?_))
   clear hK5
   refine hQ.ret (rvs1 (rv_t rfl)) (fun _ _ h => h) fun w hb hs hB hkd => ?_
   exact ⟨by rw [chkC_s hc10], hb⟩
  ·refine wp_skip' (to_k0 (fun _ _ h => h) (hK2 _ _ _ _ _ ?_))
   clear hK2
   refine wp_seq' fun K6 hK6 => ?_
   refine wp_seq' fun K7 hK7 => ?_
   refine wp_reg ?_
   refine ol_r (r_move rfl) rfl ?_
   refine ol_r (r_len rfl sl38) rfl ?_
   have hz := sizesC_ok (Decidable.not_not.1 hc10)
   refine ol_r (r_move rfl) rfl ?_
   refine ol_nil (to_k0 (fun _ _ h => h) (hK7 _ _ _ _ _ ?_))
   clear hK7
   refine wp_block' ?_
   apply wp_loopM (σ := Nat) (fun s => s ≤ xs.length ∧ bErrs xs = bErrs (xs.drop s)) (fun s => [(14, .int .i64 s)]) [(12, _), (13, _)] (fun s => []) [(7, _)] (fun s => xs.length - s) (0)
   ·try dsimp only
    exact ⟨Nat.zero_le _, rfl⟩
   ·exact (sub_cons rfl sub_nil)
   ·exact (sub_cons rfl (sub_cons rfl sub_nil))
   ·exact subH_nil
   ·exact (subH_same rfl subH_nil)
   ·rintro k ⟨hk, hP⟩
    intro K8 hK8
    refine wp_seq' fun K9 hK9 => ?_
    refine wp_reg ?_
    refine ol_r (r_lss rfl rfl) rfl ?_
    refine ol_nil (to_k0 (fun _ _ h => h) (hK9 _ _ _ _ _ ?_))
    clear hK9
    refine wp_seq' fun K10 hK10 => ?_
    first | refine wp_condD rfl (fun hc15 => ?_) (fun hc15 => ?_) | refine wp_condN rfl (fun hc15 => ?_) (fun hc15 => ?_) | refine wp_condNB rfl (fun hc15 => ?_) (fun hc15 => ?_) | refine wp_cond' rfl (fun hc15 => ?_) (fun hc15 => ?_)
    ·refine wp_skip' (to_k0 (fun _ _ h => h) (hK10 _ _ _ _ _ ?_))
     clear hK10
     refine wp_seq' fun K11 hK11 => ?_
     refine wp_block' ?_
     refine wp_seq' fun K12 hK12 => ?_
     refine wp_reg ?_
     refine ol_ixr hl rfl rfl sl38 (by omega) rfl fun x16 hx16 => ?_
     try simp only [Int.toNat_natCast] at hx16
     refine ol_r (r_ldw rfl (fun w1 hb1 hs1 hB1 => Rd.loads hl ty24 hx16 hb1)) rfl ?_
     refine ol_alloc 5 z24 rfl fun b5 => ?_
     refine ol_store (id := 5) rfl rfl rfl rfl sz24 rfl rfl (by first | decide | exact Nat.zero_lt_succ _ | simp) ?_
     refine ol_nil (to_k0 (fun _ _ h => h) (hK12 _ _ _ _ _ ?_))
     clear hK12
     refine wp_seq' fun K13 hK13 => ?_
     refine wp_seq' fun K14 hK14 => ?_
     refine wp_reg ?_
     refine ol_r (r_fa (o' := 3) rfl fl24_3 rfl) rfl ?_
     refine ol_r (r_ld (id := 5) rfl rfl rfl sc4) rfl ?_
     refine ol_r (r_not rfl) rfl ?_
     refine ol_nil (to_k0 (fun _ _ h => h) (hK14 _ _ _ _ _ ?_))
     clear hK14
     first | refine wp_condD rfl (fun hc20 => ?_) (fun hc20 => ?_) | refine wp_condN rfl (fun hc20 => ?_) (fun hc20 => ?_) | refine wp_condNB rfl (fun hc20 => ?_) (fun hc20 => ?_) | refine wp_cond' rfl (fun hc20 => ?_) (fun hc20 => ?_)
     ·refine wp_seq' fun K15 hK15 => ?_
      refine wp_seq' fun K16 hK16 => ?_
      refine wp_reg ?_
      refine ol_r (r_fa (o' := 1) rfl fl24_1 rfl) rfl ?_
      refine ol_r (r_ld (id := 5) rfl rfl rfl sc3) rfl ?_
      refine ol_r (r_neq rfl rfl) rfl ?_
      refine ol_r (r_move rfl) rfl ?_
      refine ol_split (d := 24) rfl (fun hs24 => ?_) (fun hs24 => ?_)
      ·have phs24 := hs24; try simp only [decide_eq_true_eq, decide_eq_false_iff_not, Bool.not_eq_true', Bool.not_eq_false', Bool.not_true, Bool.not_false] at phs24
       refine ol_s rfl rfl hs24 rfl ?_
       refine ol_s rfl rfl hs24 rfl ?_
       refine ol_s rfl rfl hs24 rfl ?_
       refine ol_r (r_pickT rfl hs24 rfl) rfl ?_
       refine ol_nil (to_k0 (fun _ _ h => h) (hK16 _ _ _ _ _ ?_))
       clear hK16
       refine wp_condT rfl ?_
       refine wp_seq' fun K17 hK17 => ?_
       refine wp_reg ?_
       refine ol_r (r_assign rfl) rfl ?_
       refine ol_nil (to_k0 (fun _ _ h => h) (hK17 _ _ _ _ _ ?_))
       clear hK17
       refine hQ.ret (rvs1 (rv_t rfl)) (fun _ _ h => h) fun w hb hs hB hkd => ?_
       first
         | (have hke : xs.length ≤ k := by omega
            exact ⟨by rw [chkC_b (Decidable.not_not.1 hc10), hP, List.drop_eq_nil_of_le hke]; rfl, hb⟩)
         | (refine ⟨congrArg (fun v => Ending.returned (Value.int .i64 v)) (chkC_at (Decidable.not_not.1 hc10) hP hx16 ?_ (by decide)).symm, hb⟩
            rw [bErr_q, if_pos (by simpa using hc20), if_neg (by omega)]
            done)
         | (refine ⟨congrArg (fun v => Ending.returned (Value.int .i64 v)) (chkC_at (Decidable.not_not.1 hc10) hP hx16 ?_ (by decide)).symm, hb⟩
            rw [bErr_q, if_neg (by simpa using hc20), if_pos (by omega)]
            done)
      ·have phs24 := hs24; try simp only [decide_eq_true_eq, decide_eq_false_iff_not, Bool.not_eq_true', Bool.not_eq_false', Bool.not_true, Bool.not_false] at phs24
       refine ol_g rfl rfl hs24 ?_
       refine ol_r (r_fa (o' := 2) rfl fl24_2 rfl) rfl ?_
       refine ol_g rfl rfl hs24 ?_
       refine ol_r (r_ld (id := 5) rfl rfl rfl sc3) rfl ?_
       refine ol_g rfl rfl hs24 ?_
       refine ol_r (r_neq rfl rfl) rfl ?_
       refine ol_r (r_pickF rfl hs24 rfl) rfl ?_
       refine ol_nil (to_k0 (fun _ _ h => h) (hK16 _ _ _ _ _ ?_))
       clear hK16
       first | refine wp_condD rfl (fun hc28 => ?_) (fun hc28 => ?_) | refine wp_condN rfl (fun hc28 => ?_) (fun hc28 => ?_) | refine wp_condNB rfl (fun hc28 => ?_) (fun hc28 => ?_) | refine wp_cond' rfl (fun hc28 => ?_) (fun hc28 => ?_)
       ·refine wp_seq' fun K18 hK18 => ?_
        refine wp_reg ?_
        refine ol_r (r_assign rfl) rfl ?_
        refine ol_nil (to_k0 (fun _ _ h => h) (hK18 _ _ _ _ _ ?_))
        clear hK18
        refine hQ.ret (rvs1 (rv_t rfl)) (fun _ _ h => h) fun w hb hs hB hkd => ?_
        first
          | (have hke : xs.length ≤ k := by omega
             exact ⟨by rw [chkC_b (Decidable.not_not.1 hc10), hP, List.drop_eq_nil_of_le hke]; rfl, hb⟩)
          | (refine ⟨congrArg (fun v => Ending.returned (Value.int .i64 v)) (chkC_at (Decidable.not_not.1 hc10) hP hx16 ?_ (by decide)).symm, hb⟩
             rw [bErr_q, if_pos (by simpa using hc20), if_neg (by omega)]
             done)
          | (refine ⟨congrArg (fun v => Ending.returned (Value.int .i64 v)) (chkC_at (Decidable.not_not.1 hc10) hP hx16 ?_ (by decide)).symm, hb⟩
             rw [bErr_q, if_neg (by simpa using hc20), if_pos (by omega)]
             done)
       ·refine wp_skip' (to_k0 (fun _ _ h => h) (hK15 _ _ _ _ _ ?_))
        clear hK15
        refine wp_exit' (to_k0 (fun _ _ h => h) (hK11 _ _ _ _ _ ?_))
        clear hK11
        refine wp_reg ?_
        refine ol_r (r_add rfl rfl (by omega)) rfl ?_
        have hz := sizesC_ok (Decidable.not_not.1 hc10)
        refine ol_r (r_move rfl) rfl ?_
        refine ol_nil (to_k0 (fun _ _ h => h) (hK8 (k + 1) _ _ ?_ ?_ (sub_cons rfl sub_nil) (sub_cons rfl (sub_cons rfl sub_nil)) (by exact subH_nil) (subH_same rfl subH_nil)))
        ·try dsimp only
         refine ⟨by omega, hP.trans (bErrs_next hx16 ?_)⟩
         rw [bErr_q]
         first
           | (rw [if_pos (by simpa using hc20), if_pos (by omega)]; done)
           | (rw [if_neg (by simpa using hc20), if_neg (by omega)]; done)
        ·try dsimp only
         omega
     ·refine wp_skip' (to_k0 (fun _ _ h => h) (hK13 _ _ _ _ _ ?_))
      clear hK13
      refine wp_seq' fun K19 hK19 => ?_
      refine wp_reg ?_
      refine ol_r (r_fa (o' := 1) rfl fl24_1 rfl) rfl ?_
      refine ol_r (r_ld (id := 5) rfl rfl rfl sc3) rfl ?_
      refine ol_r (r_lss rfl rfl) rfl ?_
      refine ol_r (r_move rfl) rfl ?_
      refine ol_split (d := 32) rfl (fun hs32 => ?_) (fun hs32 => ?_)
      ·have phs32 := hs32; try simp only [decide_eq_true_eq, decide_eq_false_iff_not, Bool.not_eq_true', Bool.not_eq_false', Bool.not_true, Bool.not_false] at phs32
       refine ol_s rfl rfl hs32 rfl ?_
       refine ol_s rfl rfl hs32 rfl ?_
       refine ol_s rfl rfl hs32 rfl ?_
       refine ol_s rfl rfl hs32 rfl ?_
       refine ol_s rfl rfl hs32 rfl ?_
       refine ol_s rfl rfl hs32 rfl ?_
       refine ol_r (r_pickT rfl hs32 rfl) rfl ?_
       refine ol_r (r_move rfl) rfl ?_
       refine ol_s rfl rfl rfl rfl ?_
       refine ol_s rfl rfl rfl rfl ?_
       refine ol_s rfl rfl rfl rfl ?_
       refine ol_r (r_pickT rfl rfl rfl) rfl ?_
       refine ol_r (r_move rfl) rfl ?_
       refine ol_s rfl rfl rfl rfl ?_
       refine ol_s rfl rfl rfl rfl ?_
       refine ol_s rfl rfl rfl rfl ?_
       refine ol_s rfl rfl rfl rfl ?_
       refine ol_s rfl rfl rfl rfl ?_
       refine ol_s rfl rfl rfl rfl ?_
       refine ol_r (r_pickT rfl rfl rfl) rfl ?_
       refine ol_nil (to_k0 (fun _ _ h => h) (hK19 _ _ _ _ _ ?_))
       clear hK19
       refine wp_condT rfl ?_
       refine wp_seq' fun K20 hK20 => ?_
       refine wp_reg ?_
       refine ol_r (r_assign rfl) rfl ?_
       refine ol_nil (to_k0 (fun _ _ h => h) (hK20 _ _ _ _ _ ?_))
       clear hK20
       refine hQ.ret (rvs1 (rv_t rfl)) (fun _ _ h => h) fun w hb hs hB hkd => ?_
       first
         | (have hke : xs.length ≤ k := by omega
            exact ⟨by rw [chkC_b (Decidable.not_not.1 hc10), hP, List.drop_eq_nil_of_le hke]; rfl, hb⟩)
         | (refine ⟨congrArg (fun v => Ending.returned (Value.int .i64 v)) (chkC_at (Decidable.not_not.1 hc10) hP hx16 ?_ (by decide)).symm, hb⟩
            rw [bErr_q, if_pos (by simpa using hc20), if_neg (by omega)]
            done)
         | (refine ⟨congrArg (fun v => Ending.returned (Value.int .i64 v)) (chkC_at (Decidable.not_not.1 hc10) hP hx16 ?_ (by decide)).symm, hb⟩
            rw [bErr_q, if_neg (by simpa using hc20), if_pos (by omega)]
            done)
      ·have phs32 := hs32; try simp only [decide_eq_true_eq, decide_eq_false_iff_not, Bool.not_eq_true', Bool.not_eq_false', Bool.not_true, Bool.not_false] at phs32
       refine ol_g rfl rfl hs32 ?_
       refine ol_r (r_fa (o' := 1) rfl fl24_1 rfl) rfl ?_
       refine ol_g rfl rfl hs32 ?_
       refine ol_r (r_ld (id := 5) rfl rfl rfl sc3) rfl ?_
       refine ol_g rfl rfl hs32 ?_
       refine ol_r (r_fa (o' := 0) rfl fl24_0 rfl) rfl ?_
       refine ol_g rfl rfl hs32 ?_
       refine ol_r (r_ld (id := 5) rfl rfl rfl sc3) rfl ?_
       refine ol_g rfl rfl hs32 ?_
       have hzz := hz.2.2.1 x16.size (List.mem_map_of_mem (f := (·.size)) (List.mem_of_getElem? hx16))
       refine ol_r (r_mul rfl rfl (by omega)) rfl ?_
       refine ol_g rfl rfl hs32 ?_
       refine ol_r (r_gtr rfl rfl) rfl ?_
       refine ol_r (r_pickF rfl hs32 rfl) rfl ?_
       refine ol_r (r_move rfl) rfl ?_
       refine ol_split (d := 40) rfl (fun hs40 => ?_) (fun hs40 => ?_)
       ·have phs40 := hs40; try simp only [decide_eq_true_eq, decide_eq_false_iff_not, Bool.not_eq_true', Bool.not_eq_false', Bool.not_true, Bool.not_false] at phs40
        refine ol_s rfl rfl hs40 rfl ?_
        refine ol_s rfl rfl hs40 rfl ?_
        refine ol_s rfl rfl hs40 rfl ?_
        refine ol_r (r_pickT rfl hs40 rfl) rfl ?_
        refine ol_r (r_move rfl) rfl ?_
        refine ol_s rfl rfl rfl rfl ?_
        refine ol_s rfl rfl rfl rfl ?_
        refine ol_s rfl rfl rfl rfl ?_
        refine ol_s rfl rfl rfl rfl ?_
        refine ol_s rfl rfl rfl rfl ?_
        refine ol_s rfl rfl rfl rfl ?_
        refine ol_r (r_pickT rfl rfl rfl) rfl ?_
        refine ol_nil (to_k0 (fun _ _ h => h) (hK19 _ _ _ _ _ ?_))
        clear hK19
        refine wp_condT rfl ?_
        refine wp_seq' fun K21 hK21 => ?_
        refine wp_reg ?_
        refine ol_r (r_assign rfl) rfl ?_
        refine ol_nil (to_k0 (fun _ _ h => h) (hK21 _ _ _ _ _ ?_))
        clear hK21
        refine hQ.ret (rvs1 (rv_t rfl)) (fun _ _ h => h) fun w hb hs hB hkd => ?_
        first
          | (have hke : xs.length ≤ k := by omega
             exact ⟨by rw [chkC_b (Decidable.not_not.1 hc10), hP, List.drop_eq_nil_of_le hke]; rfl, hb⟩)
          | (refine ⟨congrArg (fun v => Ending.returned (Value.int .i64 v)) (chkC_at (Decidable.not_not.1 hc10) hP hx16 ?_ (by decide)).symm, hb⟩
             rw [bErr_q, if_pos (by simpa using hc20), if_neg (by omega)]
             done)
          | (refine ⟨congrArg (fun v => Ending.returned (Value.int .i64 v)) (chkC_at (Decidable.not_not.1 hc10) hP hx16 ?_ (by decide)).symm, hb⟩
             rw [bErr_q, if_neg (by simpa using hc20), if_pos (by omega)]
             done)
       ·have phs40 := hs40; try simp only [decide_eq_true_eq, decide_eq_false_iff_not, Bool.not_eq_true', Bool.not_eq_false', Bool.not_true, Bool.not_false] at phs40
        refine ol_g rfl rfl hs40 ?_
        refine ol_r (r_fa (o' := 2) rfl fl24_2 rfl) rfl ?_
        refine ol_g rfl rfl hs40 ?_
        refine ol_r (r_ld (id := 5) rfl rfl rfl sc3) rfl ?_
        refine ol_g rfl rfl hs40 ?_
        refine ol_r (r_lss rfl rfl) rfl ?_
        refine ol_r (r_pickF rfl hs40 rfl) rfl ?_
        refine ol_r (r_move rfl) rfl ?_
        refine ol_split (d := 45) rfl (fun hs45 => ?_) (fun hs45 => ?_)
        ·have phs45 := hs45; try simp only [decide_eq_true_eq, decide_eq_false_iff_not, Bool.not_eq_true', Bool.not_eq_false', Bool.not_true, Bool.not_false] at phs45
         refine ol_s rfl rfl hs45 rfl ?_
         refine ol_s rfl rfl hs45 rfl ?_
         refine ol_s rfl rfl hs45 rfl ?_
         refine ol_s rfl rfl hs45 rfl ?_
         refine ol_s rfl rfl hs45 rfl ?_
         refine ol_s rfl rfl hs45 rfl ?_
         refine ol_r (r_pickT rfl hs45 rfl) rfl ?_
         refine ol_nil (to_k0 (fun _ _ h => h) (hK19 _ _ _ _ _ ?_))
         clear hK19
         refine wp_condT rfl ?_
         refine wp_seq' fun K22 hK22 => ?_
         refine wp_reg ?_
         refine ol_r (r_assign rfl) rfl ?_
         refine ol_nil (to_k0 (fun _ _ h => h) (hK22 _ _ _ _ _ ?_))
         clear hK22
         refine hQ.ret (rvs1 (rv_t rfl)) (fun _ _ h => h) fun w hb hs hB hkd => ?_
         first
           | (have hke : xs.length ≤ k := by omega
              exact ⟨by rw [chkC_b (Decidable.not_not.1 hc10), hP, List.drop_eq_nil_of_le hke]; rfl, hb⟩)
           | (refine ⟨congrArg (fun v => Ending.returned (Value.int .i64 v)) (chkC_at (Decidable.not_not.1 hc10) hP hx16 ?_ (by decide)).symm, hb⟩
              rw [bErr_q, if_pos (by simpa using hc20), if_neg (by omega)]
              done)
           | (refine ⟨congrArg (fun v => Ending.returned (Value.int .i64 v)) (chkC_at (Decidable.not_not.1 hc10) hP hx16 ?_ (by decide)).symm, hb⟩
              rw [bErr_q, if_neg (by simpa using hc20), if_pos (by omega)]
              done)
        ·have phs45 := hs45; try simp only [decide_eq_true_eq, decide_eq_false_iff_not, Bool.not_eq_true', Bool.not_eq_false', Bool.not_true, Bool.not_false] at phs45
         refine ol_g rfl rfl hs45 ?_
         refine ol_r (r_fa (o' := 2) rfl fl24_2 rfl) rfl ?_
         refine ol_g rfl rfl hs45 ?_
         refine ol_r (r_ld (id := 5) rfl rfl rfl sc3) rfl ?_
         refine ol_g rfl rfl hs45 ?_
         refine ol_r (r_fa (o' := 0) rfl fl24_0 rfl) rfl ?_
         refine ol_g rfl rfl hs45 ?_
         refine ol_r (r_ld (id := 5) rfl rfl rfl sc3) rfl ?_
         refine ol_g rfl rfl hs45 ?_
         have hzz2 := hz.2.2.1 x16.size (List.mem_map_of_mem (f := (·.size)) (List.mem_of_getElem? hx16))
         refine ol_r (r_sub rfl rfl (by omega)) rfl ?_
         refine ol_g rfl rfl hs45 ?_
         refine ol_r (r_gtr rfl rfl) rfl ?_
         refine ol_r (r_pickF rfl hs45 rfl) rfl ?_
         refine ol_nil (to_k0 (fun _ _ h => h) (hK19 _ _ _ _ _ ?_))
         clear hK19
         first | refine wp_condD rfl (fun hc52 => ?_) (fun hc52 => ?_) | refine wp_condN rfl (fun hc52 => ?_) (fun hc52 => ?_) | refine wp_condNB rfl (fun hc52 => ?_) (fun hc52 => ?_) | refine wp_cond' rfl (fun hc52 => ?_) (fun hc52 => ?_)
         ·refine wp_seq' fun K23 hK23 => ?_
          refine wp_reg ?_
          refine ol_r (r_assign rfl) rfl ?_
          refine ol_nil (to_k0 (fun _ _ h => h) (hK23 _ _ _ _ _ ?_))
          clear hK23
          refine hQ.ret (rvs1 (rv_t rfl)) (fun _ _ h => h) fun w hb hs hB hkd => ?_
          first
            | (have hke : xs.length ≤ k := by omega
               exact ⟨by rw [chkC_b (Decidable.not_not.1 hc10), hP, List.drop_eq_nil_of_le hke]; rfl, hb⟩)
            | (refine ⟨congrArg (fun v => Ending.returned (Value.int .i64 v)) (chkC_at (Decidable.not_not.1 hc10) hP hx16 ?_ (by decide)).symm, hb⟩
               rw [bErr_q, if_pos (by simpa using hc20), if_neg (by omega)]
               done)
            | (refine ⟨congrArg (fun v => Ending.returned (Value.int .i64 v)) (chkC_at (Decidable.not_not.1 hc10) hP hx16 ?_ (by decide)).symm, hb⟩
               rw [bErr_q, if_neg (by simpa using hc20), if_pos (by omega)]
               done)
         ·refine wp_skip' (to_k0 (fun _ _ h => h) (hK11 _ _ _ _ _ ?_))
          clear hK11
          refine wp_reg ?_
          refine ol_r (r_add rfl rfl (by omega)) rfl ?_
          have hz := sizesC_ok (Decidable.not_not.1 hc10)
          refine ol_r (r_move rfl) rfl ?_
          refine ol_nil (to_k0 (fun _ _ h => h) (hK8 (k + 1) _ _ ?_ ?_ (sub_cons rfl sub_nil) (sub_cons rfl (sub_cons rfl sub_nil)) (by exact subH_nil) (subH_same rfl subH_nil)))
          ·try dsimp only
           refine ⟨by omega, hP.trans (bErrs_next hx16 ?_)⟩
           rw [bErr_q]
           first
             | (rw [if_pos (by simpa using hc20), if_pos (by omega)]; done)
             | (rw [if_neg (by simpa using hc20), if_neg (by omega)]; done)
          ·try dsimp only
           omega
    ·refine wp_exit' (to_k0 (fun _ _ h => h) (hK6 _ _ _ _ _ ?_))
     clear hK6
     refine wp_seq' fun K24 hK24 => ?_
     refine wp_reg ?_
     refine ol_r (r_assign rfl) rfl ?_
     refine ol_nil (to_k0 (fun _ _ h => h) (hK24 _ _ _ _ _ ?_))
     clear hK24
     refine hQ.ret (rvs1 (rv_t rfl)) (fun _ _ h => h) fun w hb hs hB hkd => ?_
     first
       | (have hke : xs.length ≤ k := by omega
          exact ⟨by rw [chkC_b (Decidable.not_not.1 hc10), hP, List.drop_eq_nil_of_le hke]; rfl, hb⟩)
       | (refine ⟨congrArg (fun v => Ending.returned (Value.int .i64 v)) (chkC_at (Decidable.not_not.1 hc10) hP hx16 ?_ (by decide)).symm, hb⟩
          rw [bErr_q, if_pos (by simpa using hc20), if_neg (by omega)]
          done)
       | (refine ⟨congrArg (fun v => Ending.returned (Value.int .i64 v)) (chkC_at (Decidable.not_not.1 hc10) hP hx16 ?_ (by decide)).symm, hb⟩
          rw [bErr_q, if_neg (by simpa using hc20), if_pos (by omega)]
          done)
theorem eff_beats (x y : BestR) (w : World) : Calls Try.prog 98 #[encBest.val x, encBest.val y] w fun e w' => e = .returned (.bool (lessB y x)) ∧ Below w.heap.size w w' := by
  refine enterQ (N := 19) (C := fun _ => True) (H := []) (B := w.heap.size) (args := [_, _]) Try.func98 rfl rfl rfl (Nat.le_refl _) (Sat.nil _ _) fun Q hQ => ?_
  refine wp_seq' fun K1 hK1 => ?_
  refine wp_reg ?_
  refine ol_box 2 rfl rfl rfl fun b2 => ?_
  refine ol_box 3 rfl rfl rfl fun b3 => ?_
  refine ol_r (r_assign rfl) rfl ?_
  refine ol_nil (to_k0 (fun _ _ h => h) (hK1 _ _ _ _ _ ?_))
  clear hK1
  refine wp_seq' fun K2 hK2 => ?_
  refine wp_reg ?_
  refine ol_r (r_fa (o' := 3) rfl fl24_3 rfl) rfl ?_
  refine ol_r (r_ld (id := 2) rfl rfl rfl sc4) rfl ?_
  refine ol_r (r_move rfl) rfl ?_
  refine ol_split (d := 7) rfl (fun hs7 => ?_) (fun hs7 => ?_)
  ·have phs7 := hs7; try simp only [decide_eq_true_eq, decide_eq_false_iff_not, Bool.not_eq_true', Bool.not_eq_false', Bool.not_true, Bool.not_false] at phs7
   refine ol_g rfl rfl hs7 ?_
   refine ol_r (r_fa (o' := 3) rfl fl24_3 rfl) rfl ?_
   refine ol_g rfl rfl hs7 ?_
   refine ol_r (r_ld (id := 3) rfl rfl rfl sc4) rfl ?_
   refine ol_g rfl rfl hs7 ?_
   refine ol_r (r_not rfl) rfl ?_
   refine ol_g rfl rfl hs7 ?_
   refine ol_r (r_move rfl) rfl ?_
   refine ol_split (d := 11) rfl (fun hs11 => ?_) (fun hs11 => ?_)
   ·have phs11 := hs11; try simp only [decide_eq_true_eq, decide_eq_false_iff_not, Bool.not_eq_true', Bool.not_eq_false', Bool.not_true, Bool.not_false] at phs11
    refine ol_s rfl rfl hs11 rfl ?_
    refine ol_s rfl rfl hs11 rfl ?_
    refine ol_s rfl rfl hs11 rfl ?_
    refine ol_s rfl rfl hs11 rfl ?_
    refine ol_s rfl rfl hs11 rfl ?_
    refine ol_g rfl rfl hs7 ?_
    refine ol_r (r_pickT rfl hs11 rfl) rfl ?_
    refine ol_r (r_pickT rfl hs7 rfl) rfl ?_
    refine ol_r (r_assign rfl) rfl ?_
    refine ol_nil (to_k0 (fun _ _ h => h) (hK2 _ _ _ _ _ ?_))
    clear hK2
    refine hQ.ret (rvs1 (rv_t rfl)) (fun _ _ h => h) fun w hb hs hB hkd => ?_
    refine ⟨?_, hb⟩
    unfold lessB
    simp_all
   ·have phs11 := hs11; try simp only [decide_eq_true_eq, decide_eq_false_iff_not, Bool.not_eq_true', Bool.not_eq_false', Bool.not_true, Bool.not_false] at phs11
    refine ol_g rfl rfl hs11 ?_
    refine ol_r (r_fa (o' := 1) rfl fl24_1 rfl) rfl ?_
    refine ol_g rfl rfl hs11 ?_
    refine ol_r (r_ld (id := 2) rfl rfl rfl sc3) rfl ?_
    refine ol_g rfl rfl hs11 ?_
    refine ol_r (r_fa (o' := 1) rfl fl24_1 rfl) rfl ?_
    refine ol_g rfl rfl hs11 ?_
    refine ol_r (r_ld (id := 3) rfl rfl rfl sc3) rfl ?_
    refine ol_g rfl rfl hs11 ?_
    refine ol_r (r_gtr rfl rfl) rfl ?_
    refine ol_g rfl rfl hs7 ?_
    refine ol_r (r_pickF rfl hs11 rfl) rfl ?_
    refine ol_r (r_pickT rfl hs7 rfl) rfl ?_
    refine ol_r (r_assign rfl) rfl ?_
    refine ol_nil (to_k0 (fun _ _ h => h) (hK2 _ _ _ _ _ ?_))
    clear hK2
    refine hQ.ret (rvs1 (rv_t rfl)) (fun _ _ h => h) fun w hb hs hB hkd => ?_
    refine ⟨?_, hb⟩
    unfold lessB
    simp_all
  ·have phs7 := hs7; try simp only [decide_eq_true_eq, decide_eq_false_iff_not, Bool.not_eq_true', Bool.not_eq_false', Bool.not_true, Bool.not_false] at phs7
   refine ol_s rfl rfl hs7 rfl ?_
   refine ol_s rfl rfl hs7 rfl ?_
   refine ol_s rfl rfl hs7 rfl ?_
   refine ol_s rfl rfl hs7 rfl ?_
   refine ol_u rfl rfl rfl ?_
   refine ol_u rfl rfl rfl ?_
   refine ol_u rfl rfl rfl ?_
   refine ol_u rfl rfl rfl ?_
   refine ol_u rfl rfl rfl ?_
   refine ol_s rfl rfl hs7 rfl ?_
   refine ol_r (r_pickF rfl hs7 rfl) rfl ?_
   refine ol_r (r_assign rfl) rfl ?_
   refine ol_nil (to_k0 (fun _ _ h => h) (hK2 _ _ _ _ _ ?_))
   clear hK2
   refine hQ.ret (rvs1 (rv_t rfl)) (fun _ _ h => h) fun w hb hs hB hkd => ?_
   refine ⟨?_, hb⟩
   unfold lessB
   simp_all
/-- Where a size stands, or would stand. -/
structure BPlace (xs : List BestR) (t : Int) (k : Nat) : Prop where
  le : k ≤ xs.length
  low : k = 0 ∨ ∃ y, xs[k - 1]? = some y ∧ y.size < t
  high : k = xs.length ∨ ∃ y, xs[k]? = some y ∧ t ≤ y.size
end Go.Proofs.Ytafkojlccknicaa

/-
  Books: names in order, new books.
-/






namespace Go.Proofs.Ytafkojlccknicaa
open Go Go.RowKit Hx
set_option linter.unusedVariables false
set_option linter.unusedSimpArgs false
set_option maxRecDepth 8000
abbrev DM := List (ByteArray × Sl)
def slV (x : Sl) : Value := .slice x.1 x.2.1 x.2.2
abbrev nilS : Sl := (none, 0, 0)
theorem strK : KeyT Try.prog 9 Value.string := KeyT.basic Try.underlying9 (fun a => trivial) (fun a b h => by cases h; rfl)
theorem mk81 : MapK Try.prog 81 Value.string slV nilS := ⟨_, _, Try.underlying81, strK, fun _ => Try.zeroValue38 _⟩
theorem ordBA_len (xs : List ByteArray) : (ordBA xs).length ≤ xs.length := by
  have h := compact_len ((xs.map bytesB).mergeSort fun x y => decide (x ≤ y))
  rw [List.length_mergeSort, List.length_map] at h
  rw [ordBA, List.length_map]; exact h
theorem eff_orderedS (B id : Nat) (a : Option Addr) (n c : Nat) (xs : List ByteArray) (T : TypeId) (H : HL) (w : World) (hB : B ≤ w.heap.size) (hs : Sat B w H) (hr : Hx.look H id = some (.row a n c (encStr.enc xs) T 1)) (hsz : n ≤ 1000000) :
    Calls Try.prog 108 #[.slice a n c, .func (.func 111) #[] #[]] w fun e w' => e = .returned (.slice a (ordBA xs).length c) ∧ Below B w w' ∧ Sat B w' ((id, .row a (ordBA xs).length c (encStr.enc (ordBA xs)) T 1) :: H) ∧ B ≤ w'.heap.size ∧ Kd (fun _ => False) w w' := by
  refine enterQ (N := 10) (C := fun _ => False) (H := H) (B := B) (args := [_, _]) Try.func108 rfl rfl rfl (hB) (hs) fun Q hQ => ?_
  refine wp_seq' fun K1 hK1 => ?_
  refine wp_reg ?_
  refine ol_r (r_assign rfl) rfl ?_
  refine ol_nil (to_k0 (fun _ _ h => h) (hK1 _ _ _ _ _ ?_))
  clear hK1
  refine wp_seq' fun K2 hK2 => ?_
  refine wp_reg ?_
  refine ol_r (r_move rfl) rfl ?_
  refine ol_r (r_move rfl) rfl ?_
  refine ol_call rfl rfl cb135 rfl (fun w1 hb1 hs1 hB1 => ?_)
  refine Calls.mono (sortF_strs B id _ _ _ xs T _ _ hB1 hs1 hr (by omega)) ?_
  rintro e w2 ⟨rfl, hbw, hs2, hB2, hkd2⟩
  refine After.sat rfl hb1 hbw hs2 hB2 (hkd2.imp (fun _ h => h.elim)) ?_
  clear hkd2 hB2 hs2 hbw hB1 hs1 hb1 w2 w1
  refine ol_nil (to_k0 (fun _ _ h => h) (hK2 _ _ _ _ _ ?_))
  clear hK2
  refine wp_seq' fun K3 hK3 => ?_
  refine wp_reg ?_
  refine ol_r (r_move rfl) rfl ?_
  refine ol_call rfl rfl cb136 rfl (fun w1 hb1 hs1 hB1 => ?_)
  refine Calls.mono (compact_strs B id _ _ _ (sortB xs) T _ _ hB1 hs1 (look_cons_eq _ _ _) (by omega)) ?_
  rintro e w2 ⟨rfl, hbw, hs2, hB2, hkd2⟩
  rw [compB_sort] at hs2 ⊢
  refine After.sat rfl hb1 hbw hs2 hB2 (hkd2.imp (fun _ h => h.elim)) ?_
  clear hkd2 hB2 hs2 hbw hB1 hs1 hb1 w2 w1
  refine ol_r (r_assign rfl) rfl ?_
  refine ol_nil (to_k0 (fun _ _ h => h) (hK3 _ _ _ _ _ ?_))
  clear hK3
  refine hQ.ret (rvs1 (rv_t rfl)) (fun _ _ h => h) fun w hb hs hB hkd => ?_
  exact ⟨rfl, hb, hs.shadow, hB, hkd⟩
/-- What a book of the program's has. -/
structure Bk1 (C : Nat) (w : World) (bb bm : Nat) (az : Option Addr) (nz cz : Nat) (zs : List Int) (D : DM) (cur : Cur) : Prop where
  b : Blk C w bb [(0, .slice az nz cz), (1, .map (some bm))]
  m : Ob C w bm (MapO (pEnc Value.string slV D))
  z : Rd encI C w az nz cz zs
  r : ∀ x ∈ D, Rd encBest C w x.2.1 x.2.2.1 x.2.2.2 (cur x.1)
  nd : (pKeys D).Nodup
  sz : ∀ k ∈ pKeys D, k.size ≤ maxLen
  ln : D.length ≤ 5000
theorem eff_Names (w : World) (bb bm : Nat) (az : Option Addr) (nz cz : Nat) (zs : List Int) (D : DM) (cur : Cur) (hK : Bk1 w.heap.size w bb bm az nz cz zs D cur) :
    Calls Try.prog 63 #[.pointer (some ⟨bb, 0, none⟩)] w fun e w' => ∃ b m k, e = .returned (.slice b m k) ∧ Fresh encStr 9 w w' b m k (ordBA (pKeys D)) := by
  have hBk := hK.b
  have hM := hK.m
  have hnd := hK.nd
  have hln := hK.ln
  refine enterQ (N := 10) (C := fun _ => True) (H := []) (B := w.heap.size) (args := [_]) Try.func63 rfl rfl rfl (Nat.le_refl _) (Sat.nil _ _) fun Q hQ => ?_
  refine wp_seq' fun K1 hK1 => ?_
  refine wp_reg ?_
  refine ol_r (r_assign rfl) rfl ?_
  refine ol_nil (to_k0 (fun _ _ h => h) (hK1 _ _ _ _ _ ?_))
  clear hK1
  refine wp_seq' fun K2 hK2 => ?_
  refine wp_reg ?_
  refine ol_r (r_move rfl) rfl ?_
  refine ol_r (r_nilS rfl (rfl)) rfl ?_
  refine ol_r (r_fa (o' := 1) rfl fl128_1 rfl) rfl ?_
  refine ol_r (r_ldw rfl (fun w1 hb1 hs1 hB1 => Blk.loads (o := 1) hBk hb1 sc81 rfl)) rfl ?_
  refine ol_call rfl rfl cb110 rfl (fun w1 hb1 hs1 hB1 => ?_)
  refine Calls.mono (maps_Keys bm _) ?_
  rintro e w2 ⟨bk, TK, rfl, hb2, hs2⟩
  refine After.more rfl hb1 hs1 hB1 hb2 hs2 ?_
  clear hs2 hb2 hB1 hs1 hb1 w2 w1
  refine ol_call rfl rfl cb109 rfl (fun w1 hb1 hs1 hB1 => ?_)
  refine Calls.mono (slices_Collect slV D bm bk _ (hM.at hb1 hB1) (hs1.blk (id := 1001) rfl) hK.sz (by omega) hnd) ?_
  rintro e w2 ⟨a8, n8, c8, ks, rfl, hp8, hf8⟩
  have hl8 := hf8.len
  refine After.fresh (id := 8) rfl hb1 hs1 hB1 hf8 ?_
  clear hf8 hB1 hs1 hb1 w2 w1
  refine ol_call rfl rfl cb108 rfl (fun w1 hb1 hs1 hB1 => ?_)
  refine Calls.mono (eff_orderedS _ 8 _ _ _ ks _ _ _ hB1 hs1 rfl (by have := hp8.length_eq; rw [pKeys, List.length_map] at this; omega)) ?_
  rintro e w2 ⟨rfl, hbw, hs2, hB2, hkd2⟩
  rw [ordBA_cong (fun x => hp8.mem_iff)] at hs2 ⊢
  refine After.sat rfl hb1 hbw hs2 hB2 (hkd2.imp (fun _ h => h.elim)) ?_
  clear hkd2 hB2 hs2 hbw hB1 hs1 hb1 w2 w1
  refine ol_r (r_assign rfl) rfl ?_
  refine ol_nil (to_k0 (fun _ _ h => h) (hK2 _ _ _ _ _ ?_))
  clear hK2
  refine hQ.ret (rvs1 (rv_t rfl)) (fun _ _ h => h) fun w hb hs hB hkd => ?_
  exact ⟨_, _, _, rfl, hb, hs.ok 8 _ rfl⟩
end Go.Proofs.Ytafkojlccknicaa

/-
  Books: the reference's names, new books.
-/

namespace Go.Proofs.Ytafkojlccknicaa
open Go Go.RowKit Hx
set_option linter.unusedVariables false
set_option linter.unusedSimpArgs false
set_option maxRecDepth 8000
/-- What a book of the reference's has. -/
structure Bk2 (C : Nat) (w : World) (xb xm : Nat) (az : Option Addr) (nz cz : Nat) (zs : List Int) (an : Option Addr) (nn cn : Nat) (names : List ByteArray) (D : DM) (cur : Cur) : Prop where
  b : Blk C w xb [(0, .slice az nz cz), (1, .slice an nn cn), (2, .map (some xm))]
  m : Ob C w xm (MapO (pEnc Value.string slV D))
  z : Rd encI C w az nz cz zs
  s : Rd encStr C w an nn cn names
  r : ∀ x ∈ D, Rd encBest C w x.2.1 x.2.2.1 x.2.2.2 (cur x.1)
  nd : (pKeys D).Nodup
  nm : names = ordBA (pKeys D)
  ln : D.length ≤ 5000
theorem Bk2.nl {C : Nat} {w : World} {xb xm : Nat} {az : Option Addr} {nz cz : Nat} {zs : List Int} {an : Option Addr} {nn cn : Nat} {names : List ByteArray} {D : DM} {cur : Cur} (h : Bk2 C w xb xm az nz cz zs an nn cn names D cur) : names.length = nn ∧ nn = D.length := by
  have h1 := (ordBA_perm h.nd).length_eq
  rw [← h.nm, pKeys, List.length_map] at h1
  exact ⟨h.s.len, by rw [← h.s.len, h1]⟩
theorem ref4_Names (w : World) (xb xm : Nat) (az : Option Addr) (nz cz : Nat) (zs : List Int) (an : Option Addr) (nn cn : Nat) (names : List ByteArray) (D : DM) (cur : Cur) (hK : Bk2 w.heap.size w xb xm az nz cz zs an nn cn names D cur) :
    Calls Try.prog 64 #[.pointer (some ⟨xb, 0, none⟩)] w fun e w' => ∃ b m k, e = .returned (.slice b m k) ∧ Fresh encStr 9 w w' b m k names := by
  have hBk := hK.b
  have hS := hK.s
  have hln := hK.ln
  obtain ⟨hnl, hnd⟩ := hK.nl
  refine enterQ (N := 9) (C := fun _ => True) (H := []) (B := w.heap.size) (args := [_]) Try.func64 rfl rfl rfl (Nat.le_refl _) (Sat.nil _ _) fun Q hQ => ?_
  refine wp_seq' fun K1 hK1 => ?_
  refine wp_reg ?_
  refine ol_r (r_assign rfl) rfl ?_
  refine ol_nil (to_k0 (fun _ _ h => h) (hK1 _ _ _ _ _ ?_))
  clear hK1
  refine wp_seq' fun K2 hK2 => ?_
  refine wp_reg ?_
  refine ol_bs0 3 rw49 rfl fun b3 => ?_
  refine ol_r (r_move rfl) rfl ?_
  refine ol_r (r_nilS rfl (rfl)) rfl ?_
  refine ol_r (r_fa (o' := 1) rfl fl130_1 rfl) rfl ?_
  refine ol_r (r_ldw rfl (fun w1 hb1 hs1 hB1 => Blk.loads (o := 1) hBk hb1 sc49 rfl)) rfl ?_
  refine ol_appendR (id := 3) (xs := []) encStr hS rfl rfl rfl rfl rw49 (by omega) rfl fun a8 c8 => ?_
  refine ol_r (r_assign rfl) rfl ?_
  refine ol_nil (to_k0 (fun _ _ h => h) (hK2 _ _ _ _ _ ?_))
  clear hK2
  refine hQ.ret (rvs1 (rv_t rfl)) (fun _ _ h => h) fun w hb hs hB hkd => ?_
  exact ⟨_, _, _, rfl, hb, hs.ok 3 _ rfl⟩
theorem eff_NewBook (a : Option Addr) (n c : Nat) (zs : List Int) (w : World) (hz : Rd encI w.heap.size w a n c zs) :
    Calls Try.prog 54 #[.slice a n c] w fun e w' => if sizesC zs = 0 then ∃ bb bm b m k, e = .returned (.tuple #[.pointer (some ⟨bb, 0, none⟩), .int .i64 0]) ∧ Below w.heap.size w w' ∧ Sat w.heap.size w' [(1001, .blk bb [(0, .slice b m k), (1, .map (some bm))] 128), (1002, .ob bm (MapO (pEnc Value.string slV []))), (1003, .row b m k (encI.enc zs) 3 1)]
      else e = .returned (.tuple #[.pointer none, .int .i64 (sizesC zs)]) ∧ Below w.heap.size w w' := by
  refine enterQ (N := 15) (C := fun _ => True) (H := []) (B := w.heap.size) (args := [_]) Try.func54 rfl rfl rfl (Nat.le_refl _) (Sat.nil _ _) fun Q hQ => ?_
  refine wp_seq' fun K1 hK1 => ?_
  refine wp_reg ?_
  refine ol_r (r_assign rfl) rfl ?_
  refine ol_r (r_assign rfl) rfl ?_
  refine ol_nil (to_k0 (fun _ _ h => h) (hK1 _ _ _ _ _ ?_))
  clear hK1
  refine wp_seq' fun K2 hK2 => ?_
  refine wp_seq' fun K3 hK3 => ?_
  refine wp_reg ?_
  refine ol_r (r_move rfl) rfl ?_
  refine ol_call rfl rfl cb33 rfl (fun w1 hb1 hs1 hB1 => Calls.mono (effort_CheckSizes _ _ _ zs _ (hz.at hb1 hB1)) ?_)
  rintro e w2 ⟨rfl, hb2⟩
  refine After.below rfl hb1 hs1 hB1 hb2 ?_
  clear hb2 hB1 hs1 hb1 w2 w1
  refine ol_r (r_assign rfl) rfl ?_
  refine ol_nil (to_k0 (fun _ _ h => h) (hK3 _ _ _ _ _ ?_))
  clear hK3
  refine wp_seq' fun K4 hK4 => ?_
  refine wp_reg ?_
  refine ol_r (r_move rfl) rfl ?_
  refine ol_r (r_neq rfl rfl) rfl ?_
  refine ol_nil (to_k0 (fun _ _ h => h) (hK4 _ _ _ _ _ ?_))
  clear hK4
  first | refine wp_condD rfl (fun hc8 => ?_) (fun hc8 => ?_) | refine wp_condN rfl (fun hc8 => ?_) (fun hc8 => ?_) | refine wp_condNB rfl (fun hc8 => ?_) (fun hc8 => ?_) | refine wp_cond' rfl (fun hc8 => ?_) (fun hc8 => ?_)
  ·refine wp_seq' fun K5 hK5 => ?_
   refine wp_reg ?_
   refine ol_r (r_move rfl) rfl ?_
   refine ol_r (r_assign rfl) rfl ?_
   refine ol_r (r_assign rfl) rfl ?_
   refine ol_nil (to_k0 (fun _ _ h => h) (hK5 _ _ _ _ _ ?_))
   clear hK5
   refine hQ.ret (rvs2 (rv_t rfl) (rv_t rfl)) (fun _ _ h => h) fun w hb hs hB hkd => ?_
   rw [if_neg hc8]; exact ⟨rfl, hb⟩
  ·refine wp_skip' (to_k0 (fun _ _ h => h) (hK2 _ _ _ _ _ ?_))
   clear hK2
   refine wp_seq' fun K6 hK6 => ?_
   refine wp_reg ?_
   refine ol_r (r_move rfl) rfl ?_
   have hzo := sizesC_ok (Decidable.not_not.1 hc8)
   have hzl := hz.len
   refine ol_call rfl rfl cb102 rfl (fun w1 hb1 hs1 hB1 => Calls.mono (clone_int _ _ _ zs _ (hz.at hb1 hB1) (by omega)) ?_)
   rintro e w2 ⟨a11, n11, c11, rfl, hf11⟩
   refine After.fresh (id := 11) rfl hb1 hs1 hB1 hf11 ?_
   have hl11 := hf11.len; clear hf11 hB1 hs1 hb1 w2 w1
   refine ol_mkmapE (Value.string) (slV) 12 rfl fun b12 => ?_
   refine ol_r (r_build rfl (fun _ => bd128_0_1 _ _ _ _ _)) rfl ?_
   refine ol_box 14 rfl rfl rfl fun b14 => ?_
   refine ol_r (r_assign rfl) rfl ?_
   refine ol_r (r_assign rfl) rfl ?_
   refine ol_nil (to_k0 (fun _ _ h => h) (hK6 _ _ _ _ _ ?_))
   clear hK6
   refine hQ.ret (rvs2 (rv_t rfl) (rv_t rfl)) (fun _ _ h => h) fun w hb hs hB hkd => ?_
   rw [if_pos (Decidable.not_not.1 hc8)]
   exact ⟨_, _, _, _, _, rfl, hb, hs.kle [(14, 1001), (12, 1002), (11, 1003)] (kle_cons rfl ⟨rfl, rfl, Sub.out (sub_cons rfl (sub_cons rfl sub_nil))⟩ (kle_cons rfl (Ent.le_refl _) (kle_cons rfl (Ent.le_refl _) kle_nil))) (by decide)⟩
theorem ref4_NewBook (a : Option Addr) (n c : Nat) (zs : List Int) (w : World) (hz : Rd encI w.heap.size w a n c zs) :
    Calls Try.prog 55 #[.slice a n c] w fun e w' => if sizesC zs = 0 then ∃ xb xm b m k, e = .returned (.tuple #[.pointer (some ⟨xb, 0, none⟩), .int .i64 0]) ∧ Below w.heap.size w w' ∧ Sat w.heap.size w' [(1001, .blk xb [(0, .slice b m k), (1, .slice none 0 0), (2, .map (some xm))] 130), (1002, .ob xm (MapO (pEnc Value.string slV []))), (1003, .row b m k (encI.enc zs) 3 1)]
      else e = .returned (.tuple #[.pointer none, .int .i64 (sizesC zs)]) ∧ Below w.heap.size w w' := by
  refine enterQ (N := 16) (C := fun _ => True) (H := []) (B := w.heap.size) (args := [_]) Try.func55 rfl rfl rfl (Nat.le_refl _) (Sat.nil _ _) fun Q hQ => ?_
  refine wp_seq' fun K1 hK1 => ?_
  refine wp_reg ?_
  refine ol_r (r_assign rfl) rfl ?_
  refine ol_r (r_assign rfl) rfl ?_
  refine ol_nil (to_k0 (fun _ _ h => h) (hK1 _ _ _ _ _ ?_))
  clear hK1
  refine wp_seq' fun K2 hK2 => ?_
  refine wp_seq' fun K3 hK3 => ?_
  refine wp_reg ?_
  refine ol_r (r_move rfl) rfl ?_
  refine ol_call rfl rfl cb34 rfl (fun w1 hb1 hs1 hB1 => Calls.mono (ref_CheckSizes _ _ _ zs _ (hz.at hb1 hB1)) ?_)
  rintro e w2 ⟨rfl, hb2⟩
  refine After.below rfl hb1 hs1 hB1 hb2 ?_
  clear hb2 hB1 hs1 hb1 w2 w1
  refine ol_r (r_assign rfl) rfl ?_
  refine ol_nil (to_k0 (fun _ _ h => h) (hK3 _ _ _ _ _ ?_))
  clear hK3
  refine wp_seq' fun K4 hK4 => ?_
  refine wp_reg ?_
  refine ol_r (r_move rfl) rfl ?_
  refine ol_r (r_neq rfl rfl) rfl ?_
  refine ol_nil (to_k0 (fun _ _ h => h) (hK4 _ _ _ _ _ ?_))
  clear hK4
  first | refine wp_condD rfl (fun hc8 => ?_) (fun hc8 => ?_) | refine wp_condN rfl (fun hc8 => ?_) (fun hc8 => ?_) | refine wp_condNB rfl (fun hc8 => ?_) (fun hc8 => ?_) | refine wp_cond' rfl (fun hc8 => ?_) (fun hc8 => ?_)
  ·refine wp_seq' fun K5 hK5 => ?_
   refine wp_reg ?_
   refine ol_r (r_move rfl) rfl ?_
   refine ol_r (r_assign rfl) rfl ?_
   refine ol_r (r_assign rfl) rfl ?_
   refine ol_nil (to_k0 (fun _ _ h => h) (hK5 _ _ _ _ _ ?_))
   clear hK5
   refine hQ.ret (rvs2 (rv_t rfl) (rv_t rfl)) (fun _ _ h => h) fun w hb hs hB hkd => ?_
   rw [if_neg hc8]; exact ⟨rfl, hb⟩
  ·refine wp_skip' (to_k0 (fun _ _ h => h) (hK2 _ _ _ _ _ ?_))
   clear hK2
   refine wp_seq' fun K6 hK6 => ?_
   refine wp_reg ?_
   have hzo := sizesC_ok (Decidable.not_not.1 hc8)
   have hzl := hz.len
   refine ol_bs0 10 rw22 rfl fun b10 => ?_
   refine ol_r (r_move rfl) rfl ?_
   refine ol_appendR (id := 10) (xs := []) encI hz rfl rfl rfl rfl rw22 (by omega) rfl fun a12 c12 => ?_
   refine ol_mkmapE (Value.string) (slV) 13 rfl fun b13 => ?_
   refine ol_r (r_build rfl (fun _ => bd130_0_2 _ _ _ _ _)) rfl ?_
   refine ol_box 15 rfl rfl rfl fun b15 => ?_
   refine ol_r (r_assign rfl) rfl ?_
   refine ol_r (r_assign rfl) rfl ?_
   refine ol_nil (to_k0 (fun _ _ h => h) (hK6 _ _ _ _ _ ?_))
   clear hK6
   refine hQ.ret (rvs2 (rv_t rfl) (rv_t rfl)) (fun _ _ h => h) fun w hb hs hB hkd => ?_
   rw [if_pos (Decidable.not_not.1 hc8)]
   exact ⟨_, _, _, _, _, rfl, hb, hs.kle [(15, 1001), (13, 1002), (10, 1003)] (kle_cons rfl ⟨rfl, rfl, Sub.out (sub_cons rfl (sub_cons rfl (sub_cons rfl sub_nil)))⟩ (kle_cons rfl (Ent.le_refl _) (kle_cons rfl (Ent.le_refl _) kle_nil))) (by decide)⟩
end Go.Proofs.Ytafkojlccknicaa

/-
  Names, titles, Check, Span: program and reference.
-/


namespace Go.Proofs.Ytafkojlccknicaa
open Go Go.RowKit Hx
set_option linter.unusedVariables false
set_option linter.unusedSimpArgs false
set_option maxRecDepth 8000
theorem quant_isDigit (c : Int) (w : World) : Calls Try.prog 134 #[.int .u8 c] w fun e w' => e = .returned (.bool (decide (48 ≤ c ∧ c ≤ 57))) ∧ Below w.heap.size w w' := by
  refine enterQ (N := 9) (C := fun _ => True) (H := []) (B := w.heap.size) (args := [_]) Try.func134 rfl rfl rfl (Nat.le_refl _) (Sat.nil _ _) fun Q hQ => ?_
  refine wp_seq' fun K1 hK1 => ?_
  refine wp_reg ?_
  refine ol_r (r_assign rfl) rfl ?_
  refine ol_nil (to_k0 (fun _ _ h => h) (hK1 _ _ _ _ _ ?_))
  clear hK1
  refine wp_seq' fun K2 hK2 => ?_
  refine wp_reg ?_
  refine ol_r (r_move rfl) rfl ?_
  refine ol_r (r_geq rfl rfl) rfl ?_
  refine ol_r (r_move rfl) rfl ?_
  refine ol_split (d := 5) rfl (fun hs5 => ?_) (fun hs5 => ?_)
  ·have phs5 := hs5; try simp only [decide_eq_true_eq, decide_eq_false_iff_not, Bool.not_eq_true', Bool.not_eq_false', Bool.not_true, Bool.not_false] at phs5
   refine ol_g rfl rfl hs5 ?_
   refine ol_r (r_move rfl) rfl ?_
   refine ol_g rfl rfl hs5 ?_
   refine ol_r (r_leq rfl rfl) rfl ?_
   refine ol_r (r_pickT rfl hs5 rfl) rfl ?_
   refine ol_r (r_assign rfl) rfl ?_
   refine ol_nil (to_k0 (fun _ _ h => h) (hK2 _ _ _ _ _ ?_))
   clear hK2
   refine hQ.ret (rvs1 (rv_t rfl)) (fun _ _ h => h) fun w hb hs hB hkd => ?_
   first
     | exact ⟨congrArg (fun b => Ending.returned (Value.bool b)) (decide_eq_decide.2 (by omega)), hb⟩
  ·have phs5 := hs5; try simp only [decide_eq_true_eq, decide_eq_false_iff_not, Bool.not_eq_true', Bool.not_eq_false', Bool.not_true, Bool.not_false] at phs5
   refine ol_s rfl rfl hs5 rfl ?_
   refine ol_s rfl rfl hs5 rfl ?_
   refine ol_r (r_pickF rfl hs5 rfl) rfl ?_
   refine ol_r (r_assign rfl) rfl ?_
   refine ol_nil (to_k0 (fun _ _ h => h) (hK2 _ _ _ _ _ ?_))
   clear hK2
   refine hQ.ret (rvs1 (rv_t rfl)) (fun _ _ h => h) fun w hb hs hB hkd => ?_
   first
     | exact ⟨congrArg (fun b => Ending.returned (Value.bool b)) (decide_eq_false (by omega)).symm, hb⟩
theorem quant_IsName (q : ByteArray) (w : World) (hq0 : q.size ≤ 9223372036854775807) : Calls Try.prog 103 #[.string q] w fun e w' => e = .returned (.bool (nameB q)) ∧ Below w.heap.size w w' := by
  refine enterQ (N := 56) (C := fun _ => True) (H := []) (B := w.heap.size) (args := [_]) Try.func103 rfl rfl rfl (Nat.le_refl _) (Sat.nil _ _) fun Q hQ => ?_
  refine wp_seq' fun K1 hK1 => ?_
  refine wp_reg ?_
  refine ol_r (r_assign rfl) rfl ?_
  refine ol_nil (to_k0 (fun _ _ h => h) (hK1 _ _ _ _ _ ?_))
  clear hK1
  refine wp_seq' fun K2 hK2 => ?_
  refine wp_seq' fun K3 hK3 => ?_
  refine wp_reg ?_
  refine ol_r (r_move rfl) rfl ?_
  refine ol_r (r_lens rfl st9) rfl ?_
  refine ol_r (r_move rfl) rfl ?_
  refine ol_nil (to_k0 (fun _ _ h => h) (hK3 _ _ _ _ _ ?_))
  clear hK3
  refine wp_block' ?_
  apply wp_loopM (σ := Nat) (fun s => s ≤ q.size ∧ ∀ i, i < s → nameC (byteAt q i) = true) (fun s => [(8, .int .i64 s)]) [(0, _), (7, _)] (fun s => []) [] (fun s => q.size - s) (0)
  ·try dsimp only
   exact ⟨Nat.zero_le _, fun i h => by omega⟩
  ·exact (sub_cons rfl sub_nil)
  ·exact (sub_cons rfl (sub_cons rfl sub_nil))
  ·exact subH_nil
  ·exact subH_nil
  ·rintro k ⟨hk, hP⟩
   intro K4 hK4
   refine wp_seq' fun K5 hK5 => ?_
   refine wp_reg ?_
   refine ol_r (r_lss rfl rfl) rfl ?_
   refine ol_nil (to_k0 (fun _ _ h => h) (hK5 _ _ _ _ _ ?_))
   clear hK5
   refine wp_seq' fun K6 hK6 => ?_
   refine wp_condD rfl (fun hc9 => ?_) (fun hc9 => ?_)
   ·refine wp_skip' (to_k0 (fun _ _ h => h) (hK6 _ _ _ _ _ ?_))
    clear hK6
    refine wp_seq' fun K7 hK7 => ?_
    refine wp_block' ?_
    refine wp_seq' fun K8 hK8 => ?_
    refine wp_reg ?_
    refine ol_r (r_move rfl) rfl ?_
    refine ol_r (r_assign rfl) rfl ?_
    refine ol_nil (to_k0 (fun _ _ h => h) (hK8 _ _ _ _ _ ?_))
    clear hK8
    refine wp_seq' fun K9 hK9 => ?_
    refine wp_reg ?_
    refine ol_r (r_move rfl) rfl ?_
    refine ol_r (r_move rfl) rfl ?_
    refine ol_r (r_sidx rfl rfl st9 (by omega)) rfl ?_
    try simp only [Int.toNat_natCast]
    refine ol_r (r_assign rfl) rfl ?_
    refine ol_nil (to_k0 (fun _ _ h => h) (hK9 _ _ _ _ _ ?_))
    clear hK9
    apply wp_seq_cutM (σ := Bool) (fun s => s = decide ((97 ≤ byteAt q k ∧ byteAt q k ≤ 122) ∨ (65 ≤ byteAt q k ∧ byteAt q k ≤ 90))) (fun s => [(5, .bool s)]) [(0, _), (4, _), (7, _), (8, _)] (fun s => []) []
    ·exact (sub_cons rfl (sub_cons rfl (sub_cons rfl (sub_cons rfl sub_nil))))
    ·exact subH_nil
    ·intro K10 hK10
     refine wp_reg ?_
     refine ol_r (r_move rfl) rfl ?_
     refine ol_r (r_geq rfl rfl) rfl ?_
     refine ol_r (r_move rfl) rfl ?_
     refine ol_split (d := 16) rfl (fun hs16 => ?_) (fun hs16 => ?_)
     ·have phs16 := hs16; try simp only [decide_eq_true_eq, decide_eq_false_iff_not, Bool.not_eq_true', Bool.not_eq_false', Bool.not_true, Bool.not_false] at phs16
      refine ol_g rfl rfl hs16 ?_
      refine ol_r (r_move rfl) rfl ?_
      refine ol_g rfl rfl hs16 ?_
      refine ol_r (r_leq rfl rfl) rfl ?_
      refine ol_r (r_pickT rfl hs16 rfl) rfl ?_
      refine ol_r (r_move rfl) rfl ?_
      refine ol_split (d := 20) rfl (fun hs20 => ?_) (fun hs20 => ?_)
      ·have phs20 := hs20; try simp only [decide_eq_true_eq, decide_eq_false_iff_not, Bool.not_eq_true', Bool.not_eq_false', Bool.not_true, Bool.not_false] at phs20
       refine ol_s rfl rfl hs20 rfl ?_
       refine ol_s rfl rfl hs20 rfl ?_
       refine ol_s rfl rfl hs20 rfl ?_
       refine ol_u rfl rfl rfl ?_
       refine ol_u rfl rfl rfl ?_
       refine ol_s rfl rfl hs20 rfl ?_
       refine ol_r (r_pickT rfl hs20 rfl) rfl ?_
       refine ol_r (r_assign rfl) rfl ?_
       refine ol_nil (to_k0 (fun _ _ h => h) (hK10 (_) _ _ ?_ (sub_cons rfl sub_nil) (sub_cons rfl (sub_cons rfl (sub_cons rfl (sub_cons rfl sub_nil)))) subH_nil subH_nil))
       try dsimp only
       first
       | exact (decide_eq_true (by omega)).symm
      ·have phs20 := hs20; try simp only [decide_eq_true_eq, decide_eq_false_iff_not, Bool.not_eq_true', Bool.not_eq_false', Bool.not_true, Bool.not_false] at phs20
       refine ol_g rfl rfl hs20 ?_
       refine ol_r (r_move rfl) rfl ?_
       refine ol_g rfl rfl hs20 ?_
       refine ol_r (r_geq rfl rfl) rfl ?_
       refine ol_g rfl rfl hs20 ?_
       refine ol_r (r_move rfl) rfl ?_
       refine ol_split (d := 23) rfl (fun hs23 => ?_) (fun hs23 => ?_)
       ·have phs23 := hs23; try simp only [decide_eq_true_eq, decide_eq_false_iff_not, Bool.not_eq_true', Bool.not_eq_false', Bool.not_true, Bool.not_false] at phs23
        refine ol_g rfl rfl hs23 ?_
        refine ol_r (r_move rfl) rfl ?_
        refine ol_g rfl rfl hs23 ?_
        refine ol_r (r_leq rfl rfl) rfl ?_
        refine ol_g rfl rfl hs20 ?_
        refine ol_r (r_pickT rfl hs23 rfl) rfl ?_
        refine ol_r (r_pickF rfl hs20 rfl) rfl ?_
        refine ol_r (r_assign rfl) rfl ?_
        refine ol_nil (to_k0 (fun _ _ h => h) (hK10 (_) _ _ ?_ (sub_cons rfl sub_nil) (sub_cons rfl (sub_cons rfl (sub_cons rfl (sub_cons rfl sub_nil)))) subH_nil subH_nil))
        try dsimp only
        first
        | exact decide_eq_decide.2 (by omega)
       ·have phs23 := hs23; try simp only [decide_eq_true_eq, decide_eq_false_iff_not, Bool.not_eq_true', Bool.not_eq_false', Bool.not_true, Bool.not_false] at phs23
        refine ol_s rfl rfl hs23 rfl ?_
        refine ol_s rfl rfl hs23 rfl ?_
        refine ol_g rfl rfl hs20 ?_
        refine ol_r (r_pickF rfl hs23 rfl) rfl ?_
        refine ol_r (r_pickF rfl hs20 rfl) rfl ?_
        refine ol_r (r_assign rfl) rfl ?_
        refine ol_nil (to_k0 (fun _ _ h => h) (hK10 (_) _ _ ?_ (sub_cons rfl sub_nil) (sub_cons rfl (sub_cons rfl (sub_cons rfl (sub_cons rfl sub_nil)))) subH_nil subH_nil))
        try dsimp only
        first
        | exact (decide_eq_false (by omega)).symm
     ·have phs16 := hs16; try simp only [decide_eq_true_eq, decide_eq_false_iff_not, Bool.not_eq_true', Bool.not_eq_false', Bool.not_true, Bool.not_false] at phs16
      refine ol_s rfl rfl hs16 rfl ?_
      refine ol_s rfl rfl hs16 rfl ?_
      refine ol_r (r_pickF rfl hs16 rfl) rfl ?_
      refine ol_r (r_move rfl) rfl ?_
      refine ol_g rfl rfl rfl ?_
      refine ol_r (r_move rfl) rfl ?_
      refine ol_g rfl rfl rfl ?_
      refine ol_r (r_geq rfl rfl) rfl ?_
      refine ol_g rfl rfl rfl ?_
      refine ol_r (r_move rfl) rfl ?_
      refine ol_split (d := 23) rfl (fun hs23 => ?_) (fun hs23 => ?_)
      ·have phs23 := hs23; try simp only [decide_eq_true_eq, decide_eq_false_iff_not, Bool.not_eq_true', Bool.not_eq_false', Bool.not_true, Bool.not_false] at phs23
       refine ol_g rfl rfl hs23 ?_
       refine ol_r (r_move rfl) rfl ?_
       refine ol_g rfl rfl hs23 ?_
       refine ol_r (r_leq rfl rfl) rfl ?_
       refine ol_g rfl rfl rfl ?_
       refine ol_r (r_pickT rfl hs23 rfl) rfl ?_
       refine ol_r (r_pickF rfl rfl rfl) rfl ?_
       refine ol_r (r_assign rfl) rfl ?_
       refine ol_nil (to_k0 (fun _ _ h => h) (hK10 (_) _ _ ?_ (sub_cons rfl sub_nil) (sub_cons rfl (sub_cons rfl (sub_cons rfl (sub_cons rfl sub_nil)))) subH_nil subH_nil))
       try dsimp only
       first
       | exact decide_eq_decide.2 (by omega)
      ·have phs23 := hs23; try simp only [decide_eq_true_eq, decide_eq_false_iff_not, Bool.not_eq_true', Bool.not_eq_false', Bool.not_true, Bool.not_false] at phs23
       refine ol_s rfl rfl hs23 rfl ?_
       refine ol_s rfl rfl hs23 rfl ?_
       refine ol_g rfl rfl rfl ?_
       refine ol_r (r_pickF rfl hs23 rfl) rfl ?_
       refine ol_r (r_pickF rfl rfl rfl) rfl ?_
       refine ol_r (r_assign rfl) rfl ?_
       refine ol_nil (to_k0 (fun _ _ h => h) (hK10 (_) _ _ ?_ (sub_cons rfl sub_nil) (sub_cons rfl (sub_cons rfl (sub_cons rfl (sub_cons rfl sub_nil)))) subH_nil subH_nil))
       try dsimp only
       first
       | exact (decide_eq_false (by omega)).symm
    ·rintro b rfl
     apply wp_seq_cutM (σ := Bool) (fun s => s = !nameC (byteAt q k)) (fun s => [(46, .bool s)]) [(0, _), (7, _), (8, _)] (fun s => []) []
     ·exact (sub_cons rfl (sub_cons rfl (sub_cons rfl sub_nil)))
     ·exact subH_nil
     ·intro K11 hK11
      refine wp_reg ?_
      refine ol_r (r_move rfl) rfl ?_
      refine ol_r (r_not rfl) rfl ?_
      refine ol_r (r_move rfl) rfl ?_
      refine ol_split (d := 30) rfl (fun hs30 => ?_) (fun hs30 => ?_)
      ·have phs30 := hs30; try simp only [decide_eq_true_eq, decide_eq_false_iff_not, Bool.not_eq_true', Bool.not_eq_false', Bool.not_true, Bool.not_false] at phs30
       refine ol_g rfl rfl hs30 ?_
       refine ol_r (r_move rfl) rfl ?_
       refine ol_g rfl rfl hs30 ?_
       refine ol_call rfl rfl cb134 rfl (fun w1 hb1 hs1 hB1 => Calls.mono (quant_isDigit _ _) ?_)
       rintro e w2 ⟨rfl, hb2⟩
       refine After.below rfl hb1 hs1 hB1 hb2 ?_
       clear hb2 hB1 hs1 hb1 w2 w1
       refine ol_g rfl rfl hs30 ?_
       refine ol_r (r_not rfl) rfl ?_
       refine ol_r (r_pickT rfl hs30 rfl) rfl ?_
       refine ol_r (r_move rfl) rfl ?_
       refine ol_split (d := 35) rfl (fun hs35 => ?_) (fun hs35 => ?_)
       ·have phs35 := hs35; try simp only [decide_eq_true_eq, decide_eq_false_iff_not, Bool.not_eq_true', Bool.not_eq_false', Bool.not_true, Bool.not_false] at phs35
        refine ol_g rfl rfl hs35 ?_
        refine ol_r (r_move rfl) rfl ?_
        refine ol_g rfl rfl hs35 ?_
        refine ol_r (r_neq rfl rfl) rfl ?_
        refine ol_r (r_pickT rfl hs35 rfl) rfl ?_
        refine ol_r (r_move rfl) rfl ?_
        refine ol_split (d := 39) rfl (fun hs39 => ?_) (fun hs39 => ?_)
        ·have phs39 := hs39; try simp only [decide_eq_true_eq, decide_eq_false_iff_not, Bool.not_eq_true', Bool.not_eq_false', Bool.not_true, Bool.not_false] at phs39
         refine ol_g rfl rfl hs39 ?_
         refine ol_r (r_move rfl) rfl ?_
         refine ol_g rfl rfl hs39 ?_
         refine ol_r (r_neq rfl rfl) rfl ?_
         refine ol_r (r_pickT rfl hs39 rfl) rfl ?_
         refine ol_r (r_move rfl) rfl ?_
         refine ol_split (d := 43) rfl (fun hs43 => ?_) (fun hs43 => ?_)
         ·have phs43 := hs43; try simp only [decide_eq_true_eq, decide_eq_false_iff_not, Bool.not_eq_true', Bool.not_eq_false', Bool.not_true, Bool.not_false] at phs43
          refine ol_g rfl rfl hs43 ?_
          refine ol_r (r_move rfl) rfl ?_
          refine ol_g rfl rfl hs43 ?_
          refine ol_r (r_neq rfl rfl) rfl ?_
          refine ol_r (r_pickT rfl hs43 rfl) rfl ?_
          refine ol_nil (to_k0 (fun _ _ h => h) (hK11 (_) _ _ ?_ (sub_cons rfl sub_nil) (sub_cons rfl (sub_cons rfl (sub_cons rfl sub_nil))) subH_nil subH_nil))
          try dsimp only
          first
          | exact nn_d (by omega)
         ·have phs43 := hs43; try simp only [decide_eq_true_eq, decide_eq_false_iff_not, Bool.not_eq_true', Bool.not_eq_false', Bool.not_true, Bool.not_false] at phs43
          refine ol_s rfl rfl hs43 rfl ?_
          refine ol_s rfl rfl hs43 rfl ?_
          refine ol_r (r_pickF rfl hs43 rfl) rfl ?_
          refine ol_nil (to_k0 (fun _ _ h => h) (hK11 (_) _ _ ?_ (sub_cons rfl sub_nil) (sub_cons rfl (sub_cons rfl (sub_cons rfl sub_nil))) subH_nil subH_nil))
          try dsimp only
          first
          | exact nn_f (by omega)
        ·have phs39 := hs39; try simp only [decide_eq_true_eq, decide_eq_false_iff_not, Bool.not_eq_true', Bool.not_eq_false', Bool.not_true, Bool.not_false] at phs39
         refine ol_s rfl rfl hs39 rfl ?_
         refine ol_s rfl rfl hs39 rfl ?_
         refine ol_r (r_pickF rfl hs39 rfl) rfl ?_
         refine ol_r (r_move rfl) rfl ?_
         refine ol_s rfl rfl rfl rfl ?_
         refine ol_s rfl rfl rfl rfl ?_
         refine ol_r (r_pickF rfl rfl rfl) rfl ?_
         refine ol_nil (to_k0 (fun _ _ h => h) (hK11 (_) _ _ ?_ (sub_cons rfl sub_nil) (sub_cons rfl (sub_cons rfl (sub_cons rfl sub_nil))) subH_nil subH_nil))
         try dsimp only
         first
         | exact nn_f (by omega)
       ·have phs35 := hs35; try simp only [decide_eq_true_eq, decide_eq_false_iff_not, Bool.not_eq_true', Bool.not_eq_false', Bool.not_true, Bool.not_false] at phs35
        refine ol_s rfl rfl hs35 rfl ?_
        refine ol_s rfl rfl hs35 rfl ?_
        refine ol_r (r_pickF rfl hs35 rfl) rfl ?_
        refine ol_r (r_move rfl) rfl ?_
        refine ol_s rfl rfl rfl rfl ?_
        refine ol_s rfl rfl rfl rfl ?_
        refine ol_r (r_pickF rfl rfl rfl) rfl ?_
        refine ol_r (r_move rfl) rfl ?_
        refine ol_s rfl rfl rfl rfl ?_
        refine ol_s rfl rfl rfl rfl ?_
        refine ol_r (r_pickF rfl rfl rfl) rfl ?_
        refine ol_nil (to_k0 (fun _ _ h => h) (hK11 (_) _ _ ?_ (sub_cons rfl sub_nil) (sub_cons rfl (sub_cons rfl (sub_cons rfl sub_nil))) subH_nil subH_nil))
        try dsimp only
        first
        | exact nn_f (by omega)
      ·have phs30 := hs30; try simp only [decide_eq_true_eq, decide_eq_false_iff_not, Bool.not_eq_true', Bool.not_eq_false', Bool.not_true, Bool.not_false] at phs30
       refine ol_s rfl rfl hs30 rfl ?_
       refine ol_s rfl rfl hs30 rfl ?_
       refine ol_s rfl rfl hs30 rfl ?_
       refine ol_r (r_pickF rfl hs30 rfl) rfl ?_
       refine ol_r (r_move rfl) rfl ?_
       refine ol_s rfl rfl rfl rfl ?_
       refine ol_s rfl rfl rfl rfl ?_
       refine ol_r (r_pickF rfl rfl rfl) rfl ?_
       refine ol_r (r_move rfl) rfl ?_
       refine ol_s rfl rfl rfl rfl ?_
       refine ol_s rfl rfl rfl rfl ?_
       refine ol_r (r_pickF rfl rfl rfl) rfl ?_
       refine ol_r (r_move rfl) rfl ?_
       refine ol_s rfl rfl rfl rfl ?_
       refine ol_s rfl rfl rfl rfl ?_
       refine ol_r (r_pickF rfl rfl rfl) rfl ?_
       refine ol_nil (to_k0 (fun _ _ h => h) (hK11 (_) _ _ ?_ (sub_cons rfl sub_nil) (sub_cons rfl (sub_cons rfl (sub_cons rfl sub_nil))) subH_nil subH_nil))
       try dsimp only
       first
       | exact nn_f (by omega)
     ·rintro b rfl
      refine wp_condNB rfl (fun hc46 => ?_) (fun hc46 => ?_)
      ·refine wp_seq' fun K12 hK12 => ?_
       refine wp_reg ?_
       refine ol_r (r_assign rfl) rfl ?_
       refine ol_nil (to_k0 (fun _ _ h => h) (hK12 _ _ _ _ _ ?_))
       clear hK12
       refine hQ.ret (rvs1 (rv_t rfl)) (fun _ _ h => h) fun w hb hs hB hkd => ?_
       first
         | (refine ⟨?_, hb⟩
            have h1 : nameC (byteAt q k) = false := hc46
            have h2 : nameB q = false := by unfold nameB; rw [bytesAll_not (by omega) h1]; rfl
            rw [h2]
            done)
      ·refine wp_skip' (to_k0 (fun _ _ h => h) (hK7 _ _ _ _ _ ?_))
       clear hK7
       refine wp_reg ?_
       refine ol_r (r_add rfl rfl (by omega)) rfl ?_
       refine ol_r (r_move rfl) rfl ?_
       refine ol_nil (to_k0 (fun _ _ h => h) (hK4 (k + 1) _ _ ?_ ?_ (sub_cons rfl sub_nil) (sub_cons rfl (sub_cons rfl sub_nil)) (by exact subH_nil) subH_nil))
       ·try dsimp only
        exact ⟨by omega, up_to hP hc46⟩
       ·try dsimp only
        omega
   ·refine wp_exit' (to_k0 (fun _ _ h => h) (hK2 _ _ _ _ _ ?_))
    clear hK2
    refine wp_seq' fun K13 hK13 => ?_
    refine wp_reg ?_
    refine ol_r (r_move rfl) rfl ?_
    refine ol_r (r_lens rfl st9) rfl ?_
    refine ol_r (r_geq rfl rfl) rfl ?_
    refine ol_r (r_move rfl) rfl ?_
    refine ol_split (d := 51) rfl (fun hs51 => ?_) (fun hs51 => ?_)
    ·have phs51 := hs51; try simp only [decide_eq_true_eq, decide_eq_false_iff_not, Bool.not_eq_true', Bool.not_eq_false', Bool.not_true, Bool.not_false] at phs51
     refine ol_g rfl rfl hs51 ?_
     refine ol_r (r_move rfl) rfl ?_
     refine ol_g rfl rfl hs51 ?_
     refine ol_r (r_lens rfl st9) rfl ?_
     refine ol_g rfl rfl hs51 ?_
     refine ol_r (r_leq rfl rfl) rfl ?_
     refine ol_r (r_pickT rfl hs51 rfl) rfl ?_
     refine ol_r (r_assign rfl) rfl ?_
     refine ol_nil (to_k0 (fun _ _ h => h) (hK13 _ _ _ _ _ ?_))
     clear hK13
     refine hQ.ret (rvs1 (rv_t rfl)) (fun _ _ h => h) fun w hb hs hB hkd => ?_
     first
       | (refine ⟨?_, hb⟩
          have h1 : bytesAll nameC q = true := bytesAll_iff.2 fun i hi => hP i (by omega)
          unfold nameB
          rw [h1]
          congr 2
          simp only [Bool.true_and]
          first
            | (rw [decide_eq_true (show 1 ≤ q.size by omega), Bool.true_and, decide_eq_decide]; omega)
            | (rw [decide_eq_false (show ¬1 ≤ q.size by omega)]; rfl))
    ·have phs51 := hs51; try simp only [decide_eq_true_eq, decide_eq_false_iff_not, Bool.not_eq_true', Bool.not_eq_false', Bool.not_true, Bool.not_false] at phs51
     refine ol_s rfl rfl hs51 rfl ?_
     refine ol_s rfl rfl hs51 rfl ?_
     refine ol_s rfl rfl hs51 rfl ?_
     refine ol_r (r_pickF rfl hs51 rfl) rfl ?_
     refine ol_r (r_assign rfl) rfl ?_
     refine ol_nil (to_k0 (fun _ _ h => h) (hK13 _ _ _ _ _ ?_))
     clear hK13
     refine hQ.ret (rvs1 (rv_t rfl)) (fun _ _ h => h) fun w hb hs hB hkd => ?_
     first
       | (refine ⟨?_, hb⟩
          have h1 : bytesAll nameC q = true := bytesAll_iff.2 fun i hi => hP i (by omega)
          unfold nameB
          rw [h1]
          congr 2
          simp only [Bool.true_and]
          first
            | (rw [decide_eq_true (show 1 ≤ q.size by omega), Bool.true_and, decide_eq_decide]; omega)
            | (rw [decide_eq_false (show ¬1 ≤ q.size by omega)]; rfl))
theorem ref2_IsName (q : ByteArray) (w : World) (hq0 : q.size ≤ 9223372036854775807) : Calls Try.prog 105 #[.string q] w fun e w' => e = .returned (.bool (nameB q)) ∧ Below w.heap.size w w' := by
  refine enterQ (N := 57) (C := fun _ => True) (H := []) (B := w.heap.size) (args := [_]) Try.func105 rfl rfl rfl (Nat.le_refl _) (Sat.nil _ _) fun Q hQ => ?_
  refine wp_seq' fun K1 hK1 => ?_
  refine wp_reg ?_
  refine ol_r (r_assign rfl) rfl ?_
  refine ol_nil (to_k0 (fun _ _ h => h) (hK1 _ _ _ _ _ ?_))
  clear hK1
  refine wp_seq' fun K2 hK2 => ?_
  refine wp_seq' fun K3 hK3 => ?_
  refine wp_reg ?_
  refine ol_r (r_assign rfl) rfl ?_
  refine ol_nil (to_k0 (fun _ _ h => h) (hK3 _ _ _ _ _ ?_))
  clear hK3
  refine wp_block' ?_
  apply wp_loopM (σ := Nat) (fun s => s ≤ q.size ∧ ∀ i, i < s → nameC (byteAt q i) = true) (fun s => [(3, .int .i64 s)]) [(0, _)] (fun s => []) [] (fun s => q.size - s) (0)
  ·try dsimp only
   exact ⟨Nat.zero_le _, fun i h => by omega⟩
  ·exact (sub_cons rfl sub_nil)
  ·exact (sub_cons rfl sub_nil)
  ·exact subH_nil
  ·exact subH_nil
  ·rintro k ⟨hk, hP⟩
   intro K4 hK4
   refine wp_seq' fun K5 hK5 => ?_
   refine wp_seq' fun K6 hK6 => ?_
   refine wp_reg ?_
   refine ol_r (r_move rfl) rfl ?_
   refine ol_r (r_move rfl) rfl ?_
   refine ol_r (r_lens rfl st9) rfl ?_
   refine ol_r (r_lss rfl rfl) rfl ?_
   refine ol_nil (to_k0 (fun _ _ h => h) (hK6 _ _ _ _ _ ?_))
   clear hK6
   refine wp_condD rfl (fun hc8 => ?_) (fun hc8 => ?_)
   ·refine wp_skip' (to_k0 (fun _ _ h => h) (hK5 _ _ _ _ _ ?_))
    clear hK5
    refine wp_seq' fun K7 hK7 => ?_
    refine wp_block' ?_
    refine wp_seq' fun K8 hK8 => ?_
    refine wp_reg ?_
    refine ol_r (r_move rfl) rfl ?_
    refine ol_r (r_move rfl) rfl ?_
    refine ol_r (r_sidx rfl rfl st9 (by omega)) rfl ?_
    try simp only [Int.toNat_natCast]
    refine ol_r (r_assign rfl) rfl ?_
    refine ol_nil (to_k0 (fun _ _ h => h) (hK8 _ _ _ _ _ ?_))
    clear hK8
    apply wp_seq_cutM (σ := Bool) (fun s => s = !nameC (byteAt q k)) (fun s => [(48, .bool s)]) [(0, _), (3, _)] (fun s => []) []
    ·exact (sub_cons rfl (sub_cons rfl sub_nil))
    ·exact subH_nil
    ·intro K9 hK9
     refine wp_reg ?_
     refine ol_r (r_move rfl) rfl ?_
     refine ol_r (r_geq rfl rfl) rfl ?_
     refine ol_r (r_move rfl) rfl ?_
     refine ol_split (d := 16) rfl (fun hs16 => ?_) (fun hs16 => ?_)
     ·have phs16 := hs16; try simp only [decide_eq_true_eq, decide_eq_false_iff_not, Bool.not_eq_true', Bool.not_eq_false', Bool.not_true, Bool.not_false] at phs16
      refine ol_g rfl rfl hs16 ?_
      refine ol_r (r_move rfl) rfl ?_
      refine ol_g rfl rfl hs16 ?_
      refine ol_r (r_leq rfl rfl) rfl ?_
      refine ol_r (r_pickT rfl hs16 rfl) rfl ?_
      refine ol_r (r_move rfl) rfl ?_
      refine ol_split (d := 20) rfl (fun hs20 => ?_) (fun hs20 => ?_)
      ·have phs20 := hs20; try simp only [decide_eq_true_eq, decide_eq_false_iff_not, Bool.not_eq_true', Bool.not_eq_false', Bool.not_true, Bool.not_false] at phs20
       refine ol_s rfl rfl hs20 rfl ?_
       refine ol_s rfl rfl hs20 rfl ?_
       refine ol_s rfl rfl hs20 rfl ?_
       refine ol_u rfl rfl rfl ?_
       refine ol_u rfl rfl rfl ?_
       refine ol_s rfl rfl hs20 rfl ?_
       refine ol_r (r_pickT rfl hs20 rfl) rfl ?_
       refine ol_r (r_move rfl) rfl ?_
       refine ol_s rfl rfl rfl rfl ?_
       refine ol_s rfl rfl rfl rfl ?_
       refine ol_s rfl rfl rfl rfl ?_
       refine ol_u rfl rfl rfl ?_
       refine ol_u rfl rfl rfl ?_
       refine ol_s rfl rfl rfl rfl ?_
       refine ol_r (r_pickT rfl rfl rfl) rfl ?_
       refine ol_r (r_move rfl) rfl ?_
       refine ol_s rfl rfl rfl rfl ?_
       refine ol_s rfl rfl rfl rfl ?_
       refine ol_r (r_pickT rfl rfl rfl) rfl ?_
       refine ol_r (r_move rfl) rfl ?_
       refine ol_s rfl rfl rfl rfl ?_
       refine ol_s rfl rfl rfl rfl ?_
       refine ol_r (r_pickT rfl rfl rfl) rfl ?_
       refine ol_r (r_move rfl) rfl ?_
       refine ol_s rfl rfl rfl rfl ?_
       refine ol_s rfl rfl rfl rfl ?_
       refine ol_r (r_pickT rfl rfl rfl) rfl ?_
       refine ol_r (r_not rfl) rfl ?_
       refine ol_nil (to_k0 (fun _ _ h => h) (hK9 (_) _ _ ?_ (sub_cons rfl sub_nil) (sub_cons rfl (sub_cons rfl sub_nil)) subH_nil subH_nil))
       try dsimp only
       first
       | exact nn_f (by omega)
      ·have phs20 := hs20; try simp only [decide_eq_true_eq, decide_eq_false_iff_not, Bool.not_eq_true', Bool.not_eq_false', Bool.not_true, Bool.not_false] at phs20
       refine ol_g rfl rfl hs20 ?_
       refine ol_r (r_move rfl) rfl ?_
       refine ol_g rfl rfl hs20 ?_
       refine ol_r (r_geq rfl rfl) rfl ?_
       refine ol_g rfl rfl hs20 ?_
       refine ol_r (r_move rfl) rfl ?_
       refine ol_split (d := 23) rfl (fun hs23 => ?_) (fun hs23 => ?_)
       ·have phs23 := hs23; try simp only [decide_eq_true_eq, decide_eq_false_iff_not, Bool.not_eq_true', Bool.not_eq_false', Bool.not_true, Bool.not_false] at phs23
        refine ol_g rfl rfl hs23 ?_
        refine ol_r (r_move rfl) rfl ?_
        refine ol_g rfl rfl hs23 ?_
        refine ol_r (r_leq rfl rfl) rfl ?_
        refine ol_g rfl rfl hs20 ?_
        refine ol_r (r_pickT rfl hs23 rfl) rfl ?_
        refine ol_r (r_pickF rfl hs20 rfl) rfl ?_
        refine ol_r (r_move rfl) rfl ?_
        refine ol_split (d := 28) rfl (fun hs28 => ?_) (fun hs28 => ?_)
        ·have phs28 := hs28; try simp only [decide_eq_true_eq, decide_eq_false_iff_not, Bool.not_eq_true', Bool.not_eq_false', Bool.not_true, Bool.not_false] at phs28
         refine ol_s rfl rfl hs28 rfl ?_
         refine ol_s rfl rfl hs28 rfl ?_
         refine ol_s rfl rfl hs28 rfl ?_
         refine ol_u rfl rfl rfl ?_
         refine ol_u rfl rfl rfl ?_
         refine ol_s rfl rfl hs28 rfl ?_
         refine ol_r (r_pickT rfl hs28 rfl) rfl ?_
         refine ol_r (r_move rfl) rfl ?_
         refine ol_s rfl rfl rfl rfl ?_
         refine ol_s rfl rfl rfl rfl ?_
         refine ol_r (r_pickT rfl rfl rfl) rfl ?_
         refine ol_r (r_move rfl) rfl ?_
         refine ol_s rfl rfl rfl rfl ?_
         refine ol_s rfl rfl rfl rfl ?_
         refine ol_r (r_pickT rfl rfl rfl) rfl ?_
         refine ol_r (r_move rfl) rfl ?_
         refine ol_s rfl rfl rfl rfl ?_
         refine ol_s rfl rfl rfl rfl ?_
         refine ol_r (r_pickT rfl rfl rfl) rfl ?_
         refine ol_r (r_not rfl) rfl ?_
         refine ol_nil (to_k0 (fun _ _ h => h) (hK9 (_) _ _ ?_ (sub_cons rfl sub_nil) (sub_cons rfl (sub_cons rfl sub_nil)) subH_nil subH_nil))
         try dsimp only
         first
         | exact nn_f (by omega)
        ·have phs28 := hs28; try simp only [decide_eq_true_eq, decide_eq_false_iff_not, Bool.not_eq_true', Bool.not_eq_false', Bool.not_true, Bool.not_false] at phs28
         refine ol_g rfl rfl hs28 ?_
         refine ol_r (r_move rfl) rfl ?_
         refine ol_g rfl rfl hs28 ?_
         refine ol_r (r_geq rfl rfl) rfl ?_
         refine ol_g rfl rfl hs28 ?_
         refine ol_r (r_move rfl) rfl ?_
         refine ol_split (d := 31) rfl (fun hs31 => ?_) (fun hs31 => ?_)
         ·have phs31 := hs31; try simp only [decide_eq_true_eq, decide_eq_false_iff_not, Bool.not_eq_true', Bool.not_eq_false', Bool.not_true, Bool.not_false] at phs31
          refine ol_g rfl rfl hs31 ?_
          refine ol_r (r_move rfl) rfl ?_
          refine ol_g rfl rfl hs31 ?_
          refine ol_r (r_leq rfl rfl) rfl ?_
          refine ol_g rfl rfl hs28 ?_
          refine ol_r (r_pickT rfl hs31 rfl) rfl ?_
          refine ol_r (r_pickF rfl hs28 rfl) rfl ?_
          refine ol_r (r_move rfl) rfl ?_
          refine ol_split (d := 36) rfl (fun hs36 => ?_) (fun hs36 => ?_)
          ·have phs36 := hs36; try simp only [decide_eq_true_eq, decide_eq_false_iff_not, Bool.not_eq_true', Bool.not_eq_false', Bool.not_true, Bool.not_false] at phs36
           refine ol_s rfl rfl hs36 rfl ?_
           refine ol_s rfl rfl hs36 rfl ?_
           refine ol_r (r_pickT rfl hs36 rfl) rfl ?_
           refine ol_r (r_move rfl) rfl ?_
           refine ol_s rfl rfl rfl rfl ?_
           refine ol_s rfl rfl rfl rfl ?_
           refine ol_r (r_pickT rfl rfl rfl) rfl ?_
           refine ol_r (r_move rfl) rfl ?_
           refine ol_s rfl rfl rfl rfl ?_
           refine ol_s rfl rfl rfl rfl ?_
           refine ol_r (r_pickT rfl rfl rfl) rfl ?_
           refine ol_r (r_not rfl) rfl ?_
           refine ol_nil (to_k0 (fun _ _ h => h) (hK9 (_) _ _ ?_ (sub_cons rfl sub_nil) (sub_cons rfl (sub_cons rfl sub_nil)) subH_nil subH_nil))
           try dsimp only
           first
           | exact nn_f (by omega)
          ·have phs36 := hs36; try simp only [decide_eq_true_eq, decide_eq_false_iff_not, Bool.not_eq_true', Bool.not_eq_false', Bool.not_true, Bool.not_false] at phs36
           refine ol_g rfl rfl hs36 ?_
           refine ol_r (r_move rfl) rfl ?_
           refine ol_g rfl rfl hs36 ?_
           refine ol_r (r_eql rfl rfl) rfl ?_
           refine ol_r (r_pickF rfl hs36 rfl) rfl ?_
           refine ol_r (r_move rfl) rfl ?_
           refine ol_split (d := 40) rfl (fun hs40 => ?_) (fun hs40 => ?_)
           ·have phs40 := hs40; try simp only [decide_eq_true_eq, decide_eq_false_iff_not, Bool.not_eq_true', Bool.not_eq_false', Bool.not_true, Bool.not_false] at phs40
            refine ol_s rfl rfl hs40 rfl ?_
            refine ol_s rfl rfl hs40 rfl ?_
            refine ol_r (r_pickT rfl hs40 rfl) rfl ?_
            refine ol_r (r_move rfl) rfl ?_
            refine ol_s rfl rfl rfl rfl ?_
            refine ol_s rfl rfl rfl rfl ?_
            refine ol_r (r_pickT rfl rfl rfl) rfl ?_
            refine ol_r (r_not rfl) rfl ?_
            refine ol_nil (to_k0 (fun _ _ h => h) (hK9 (_) _ _ ?_ (sub_cons rfl sub_nil) (sub_cons rfl (sub_cons rfl sub_nil)) subH_nil subH_nil))
            try dsimp only
            first
            | exact nn_f (by omega)
           ·have phs40 := hs40; try simp only [decide_eq_true_eq, decide_eq_false_iff_not, Bool.not_eq_true', Bool.not_eq_false', Bool.not_true, Bool.not_false] at phs40
            refine ol_g rfl rfl hs40 ?_
            refine ol_r (r_move rfl) rfl ?_
            refine ol_g rfl rfl hs40 ?_
            refine ol_r (r_eql rfl rfl) rfl ?_
            refine ol_r (r_pickF rfl hs40 rfl) rfl ?_
            refine ol_r (r_move rfl) rfl ?_
            refine ol_split (d := 44) rfl (fun hs44 => ?_) (fun hs44 => ?_)
            ·have phs44 := hs44; try simp only [decide_eq_true_eq, decide_eq_false_iff_not, Bool.not_eq_true', Bool.not_eq_false', Bool.not_true, Bool.not_false] at phs44
             refine ol_s rfl rfl hs44 rfl ?_
             refine ol_s rfl rfl hs44 rfl ?_
             refine ol_r (r_pickT rfl hs44 rfl) rfl ?_
             refine ol_r (r_not rfl) rfl ?_
             refine ol_nil (to_k0 (fun _ _ h => h) (hK9 (_) _ _ ?_ (sub_cons rfl sub_nil) (sub_cons rfl (sub_cons rfl sub_nil)) subH_nil subH_nil))
             try dsimp only
             first
             | exact nn_f (by omega)
            ·have phs44 := hs44; try simp only [decide_eq_true_eq, decide_eq_false_iff_not, Bool.not_eq_true', Bool.not_eq_false', Bool.not_true, Bool.not_false] at phs44
             refine ol_g rfl rfl hs44 ?_
             refine ol_r (r_move rfl) rfl ?_
             refine ol_g rfl rfl hs44 ?_
             refine ol_r (r_eql rfl rfl) rfl ?_
             refine ol_r (r_pickF rfl hs44 rfl) rfl ?_
             refine ol_r (r_not rfl) rfl ?_
             refine ol_nil (to_k0 (fun _ _ h => h) (hK9 (_) _ _ ?_ (sub_cons rfl sub_nil) (sub_cons rfl (sub_cons rfl sub_nil)) subH_nil subH_nil))
             try dsimp only
             first
             | exact nn_e (by omega)
         ·have phs31 := hs31; try simp only [decide_eq_true_eq, decide_eq_false_iff_not, Bool.not_eq_true', Bool.not_eq_false', Bool.not_true, Bool.not_false] at phs31
          refine ol_s rfl rfl hs31 rfl ?_
          refine ol_s rfl rfl hs31 rfl ?_
          refine ol_g rfl rfl hs28 ?_
          refine ol_r (r_pickF rfl hs31 rfl) rfl ?_
          refine ol_r (r_pickF rfl hs28 rfl) rfl ?_
          refine ol_r (r_move rfl) rfl ?_
          refine ol_g rfl rfl rfl ?_
          refine ol_r (r_move rfl) rfl ?_
          refine ol_g rfl rfl rfl ?_
          refine ol_r (r_eql rfl rfl) rfl ?_
          refine ol_r (r_pickF rfl rfl rfl) rfl ?_
          refine ol_r (r_move rfl) rfl ?_
          refine ol_split (d := 40) rfl (fun hs40 => ?_) (fun hs40 => ?_)
          ·have phs40 := hs40; try simp only [decide_eq_true_eq, decide_eq_false_iff_not, Bool.not_eq_true', Bool.not_eq_false', Bool.not_true, Bool.not_false] at phs40
           refine ol_s rfl rfl hs40 rfl ?_
           refine ol_s rfl rfl hs40 rfl ?_
           refine ol_r (r_pickT rfl hs40 rfl) rfl ?_
           refine ol_r (r_move rfl) rfl ?_
           refine ol_s rfl rfl rfl rfl ?_
           refine ol_s rfl rfl rfl rfl ?_
           refine ol_r (r_pickT rfl rfl rfl) rfl ?_
           refine ol_r (r_not rfl) rfl ?_
           refine ol_nil (to_k0 (fun _ _ h => h) (hK9 (_) _ _ ?_ (sub_cons rfl sub_nil) (sub_cons rfl (sub_cons rfl sub_nil)) subH_nil subH_nil))
           try dsimp only
           first
           | exact nn_f (by omega)
          ·have phs40 := hs40; try simp only [decide_eq_true_eq, decide_eq_false_iff_not, Bool.not_eq_true', Bool.not_eq_false', Bool.not_true, Bool.not_false] at phs40
           refine ol_g rfl rfl hs40 ?_
           refine ol_r (r_move rfl) rfl ?_
           refine ol_g rfl rfl hs40 ?_
           refine ol_r (r_eql rfl rfl) rfl ?_
           refine ol_r (r_pickF rfl hs40 rfl) rfl ?_
           refine ol_r (r_move rfl) rfl ?_
           refine ol_split (d := 44) rfl (fun hs44 => ?_) (fun hs44 => ?_)
           ·have phs44 := hs44; try simp only [decide_eq_true_eq, decide_eq_false_iff_not, Bool.not_eq_true', Bool.not_eq_false', Bool.not_true, Bool.not_false] at phs44
            refine ol_s rfl rfl hs44 rfl ?_
            refine ol_s rfl rfl hs44 rfl ?_
            refine ol_r (r_pickT rfl hs44 rfl) rfl ?_
            refine ol_r (r_not rfl) rfl ?_
            refine ol_nil (to_k0 (fun _ _ h => h) (hK9 (_) _ _ ?_ (sub_cons rfl sub_nil) (sub_cons rfl (sub_cons rfl sub_nil)) subH_nil subH_nil))
            try dsimp only
            first
            | exact nn_f (by omega)
           ·have phs44 := hs44; try simp only [decide_eq_true_eq, decide_eq_false_iff_not, Bool.not_eq_true', Bool.not_eq_false', Bool.not_true, Bool.not_false] at phs44
            refine ol_g rfl rfl hs44 ?_
            refine ol_r (r_move rfl) rfl ?_
            refine ol_g rfl rfl hs44 ?_
            refine ol_r (r_eql rfl rfl) rfl ?_
            refine ol_r (r_pickF rfl hs44 rfl) rfl ?_
            refine ol_r (r_not rfl) rfl ?_
            refine ol_nil (to_k0 (fun _ _ h => h) (hK9 (_) _ _ ?_ (sub_cons rfl sub_nil) (sub_cons rfl (sub_cons rfl sub_nil)) subH_nil subH_nil))
            try dsimp only
            first
            | exact nn_e (by omega)
       ·have phs23 := hs23; try simp only [decide_eq_true_eq, decide_eq_false_iff_not, Bool.not_eq_true', Bool.not_eq_false', Bool.not_true, Bool.not_false] at phs23
        refine ol_s rfl rfl hs23 rfl ?_
        refine ol_s rfl rfl hs23 rfl ?_
        refine ol_g rfl rfl hs20 ?_
        refine ol_r (r_pickF rfl hs23 rfl) rfl ?_
        refine ol_r (r_pickF rfl hs20 rfl) rfl ?_
        refine ol_r (r_move rfl) rfl ?_
        refine ol_g rfl rfl rfl ?_
        refine ol_r (r_move rfl) rfl ?_
        refine ol_g rfl rfl rfl ?_
        refine ol_r (r_geq rfl rfl) rfl ?_
        refine ol_g rfl rfl rfl ?_
        refine ol_r (r_move rfl) rfl ?_
        refine ol_split (d := 31) rfl (fun hs31 => ?_) (fun hs31 => ?_)
        ·have phs31 := hs31; try simp only [decide_eq_true_eq, decide_eq_false_iff_not, Bool.not_eq_true', Bool.not_eq_false', Bool.not_true, Bool.not_false] at phs31
         refine ol_g rfl rfl hs31 ?_
         refine ol_r (r_move rfl) rfl ?_
         refine ol_g rfl rfl hs31 ?_
         refine ol_r (r_leq rfl rfl) rfl ?_
         refine ol_g rfl rfl rfl ?_
         refine ol_r (r_pickT rfl hs31 rfl) rfl ?_
         refine ol_r (r_pickF rfl rfl rfl) rfl ?_
         refine ol_r (r_move rfl) rfl ?_
         refine ol_split (d := 36) rfl (fun hs36 => ?_) (fun hs36 => ?_)
         ·have phs36 := hs36; try simp only [decide_eq_true_eq, decide_eq_false_iff_not, Bool.not_eq_true', Bool.not_eq_false', Bool.not_true, Bool.not_false] at phs36
          refine ol_s rfl rfl hs36 rfl ?_
          refine ol_s rfl rfl hs36 rfl ?_
          refine ol_r (r_pickT rfl hs36 rfl) rfl ?_
          refine ol_r (r_move rfl) rfl ?_
          refine ol_s rfl rfl rfl rfl ?_
          refine ol_s rfl rfl rfl rfl ?_
          refine ol_r (r_pickT rfl rfl rfl) rfl ?_
          refine ol_r (r_move rfl) rfl ?_
          refine ol_s rfl rfl rfl rfl ?_
          refine ol_s rfl rfl rfl rfl ?_
          refine ol_r (r_pickT rfl rfl rfl) rfl ?_
          refine ol_r (r_not rfl) rfl ?_
          refine ol_nil (to_k0 (fun _ _ h => h) (hK9 (_) _ _ ?_ (sub_cons rfl sub_nil) (sub_cons rfl (sub_cons rfl sub_nil)) subH_nil subH_nil))
          try dsimp only
          first
          | exact nn_f (by omega)
         ·have phs36 := hs36; try simp only [decide_eq_true_eq, decide_eq_false_iff_not, Bool.not_eq_true', Bool.not_eq_false', Bool.not_true, Bool.not_false] at phs36
          refine ol_g rfl rfl hs36 ?_
          refine ol_r (r_move rfl) rfl ?_
          refine ol_g rfl rfl hs36 ?_
          refine ol_r (r_eql rfl rfl) rfl ?_
          refine ol_r (r_pickF rfl hs36 rfl) rfl ?_
          refine ol_r (r_move rfl) rfl ?_
          refine ol_split (d := 40) rfl (fun hs40 => ?_) (fun hs40 => ?_)
          ·have phs40 := hs40; try simp only [decide_eq_true_eq, decide_eq_false_iff_not, Bool.not_eq_true', Bool.not_eq_false', Bool.not_true, Bool.not_false] at phs40
           refine ol_s rfl rfl hs40 rfl ?_
           refine ol_s rfl rfl hs40 rfl ?_
           refine ol_r (r_pickT rfl hs40 rfl) rfl ?_
           refine ol_r (r_move rfl) rfl ?_
           refine ol_s rfl rfl rfl rfl ?_
           refine ol_s rfl rfl rfl rfl ?_
           refine ol_r (r_pickT rfl rfl rfl) rfl ?_
           refine ol_r (r_not rfl) rfl ?_
           refine ol_nil (to_k0 (fun _ _ h => h) (hK9 (_) _ _ ?_ (sub_cons rfl sub_nil) (sub_cons rfl (sub_cons rfl sub_nil)) subH_nil subH_nil))
           try dsimp only
           first
           | exact nn_f (by omega)
          ·have phs40 := hs40; try simp only [decide_eq_true_eq, decide_eq_false_iff_not, Bool.not_eq_true', Bool.not_eq_false', Bool.not_true, Bool.not_false] at phs40
           refine ol_g rfl rfl hs40 ?_
           refine ol_r (r_move rfl) rfl ?_
           refine ol_g rfl rfl hs40 ?_
           refine ol_r (r_eql rfl rfl) rfl ?_
           refine ol_r (r_pickF rfl hs40 rfl) rfl ?_
           refine ol_r (r_move rfl) rfl ?_
           refine ol_split (d := 44) rfl (fun hs44 => ?_) (fun hs44 => ?_)
           ·have phs44 := hs44; try simp only [decide_eq_true_eq, decide_eq_false_iff_not, Bool.not_eq_true', Bool.not_eq_false', Bool.not_true, Bool.not_false] at phs44
            refine ol_s rfl rfl hs44 rfl ?_
            refine ol_s rfl rfl hs44 rfl ?_
            refine ol_r (r_pickT rfl hs44 rfl) rfl ?_
            refine ol_r (r_not rfl) rfl ?_
            refine ol_nil (to_k0 (fun _ _ h => h) (hK9 (_) _ _ ?_ (sub_cons rfl sub_nil) (sub_cons rfl (sub_cons rfl sub_nil)) subH_nil subH_nil))
            try dsimp only
            first
            | exact nn_f (by omega)
           ·have phs44 := hs44; try simp only [decide_eq_true_eq, decide_eq_false_iff_not, Bool.not_eq_true', Bool.not_eq_false', Bool.not_true, Bool.not_false] at phs44
            refine ol_g rfl rfl hs44 ?_
            refine ol_r (r_move rfl) rfl ?_
            refine ol_g rfl rfl hs44 ?_
            refine ol_r (r_eql rfl rfl) rfl ?_
            refine ol_r (r_pickF rfl hs44 rfl) rfl ?_
            refine ol_r (r_not rfl) rfl ?_
            refine ol_nil (to_k0 (fun _ _ h => h) (hK9 (_) _ _ ?_ (sub_cons rfl sub_nil) (sub_cons rfl (sub_cons rfl sub_nil)) subH_nil subH_nil))
            try dsimp only
            first
            | exact nn_e (by omega)
        ·have phs31 := hs31; try simp only [decide_eq_true_eq, decide_eq_false_iff_not, Bool.not_eq_true', Bool.not_eq_false', Bool.not_true, Bool.not_false] at phs31
         refine ol_s rfl rfl hs31 rfl ?_
         refine ol_s rfl rfl hs31 rfl ?_
         refine ol_g rfl rfl rfl ?_
         refine ol_r (r_pickF rfl hs31 rfl) rfl ?_
         refine ol_r (r_pickF rfl rfl rfl) rfl ?_
         refine ol_r (r_move rfl) rfl ?_
         refine ol_g rfl rfl rfl ?_
         refine ol_r (r_move rfl) rfl ?_
         refine ol_g rfl rfl rfl ?_
         refine ol_r (r_eql rfl rfl) rfl ?_
         refine ol_r (r_pickF rfl rfl rfl) rfl ?_
         refine ol_r (r_move rfl) rfl ?_
         refine ol_split (d := 40) rfl (fun hs40 => ?_) (fun hs40 => ?_)
         ·have phs40 := hs40; try simp only [decide_eq_true_eq, decide_eq_false_iff_not, Bool.not_eq_true', Bool.not_eq_false', Bool.not_true, Bool.not_false] at phs40
          refine ol_s rfl rfl hs40 rfl ?_
          refine ol_s rfl rfl hs40 rfl ?_
          refine ol_r (r_pickT rfl hs40 rfl) rfl ?_
          refine ol_r (r_move rfl) rfl ?_
          refine ol_s rfl rfl rfl rfl ?_
          refine ol_s rfl rfl rfl rfl ?_
          refine ol_r (r_pickT rfl rfl rfl) rfl ?_
          refine ol_r (r_not rfl) rfl ?_
          refine ol_nil (to_k0 (fun _ _ h => h) (hK9 (_) _ _ ?_ (sub_cons rfl sub_nil) (sub_cons rfl (sub_cons rfl sub_nil)) subH_nil subH_nil))
          try dsimp only
          first
          | exact nn_f (by omega)
         ·have phs40 := hs40; try simp only [decide_eq_true_eq, decide_eq_false_iff_not, Bool.not_eq_true', Bool.not_eq_false', Bool.not_true, Bool.not_false] at phs40
          refine ol_g rfl rfl hs40 ?_
          refine ol_r (r_move rfl) rfl ?_
          refine ol_g rfl rfl hs40 ?_
          refine ol_r (r_eql rfl rfl) rfl ?_
          refine ol_r (r_pickF rfl hs40 rfl) rfl ?_
          refine ol_r (r_move rfl) rfl ?_
          refine ol_split (d := 44) rfl (fun hs44 => ?_) (fun hs44 => ?_)
          ·have phs44 := hs44; try simp only [decide_eq_true_eq, decide_eq_false_iff_not, Bool.not_eq_true', Bool.not_eq_false', Bool.not_true, Bool.not_false] at phs44
           refine ol_s rfl rfl hs44 rfl ?_
           refine ol_s rfl rfl hs44 rfl ?_
           refine ol_r (r_pickT rfl hs44 rfl) rfl ?_
           refine ol_r (r_not rfl) rfl ?_
           refine ol_nil (to_k0 (fun _ _ h => h) (hK9 (_) _ _ ?_ (sub_cons rfl sub_nil) (sub_cons rfl (sub_cons rfl sub_nil)) subH_nil subH_nil))
           try dsimp only
           first
           | exact nn_f (by omega)
          ·have phs44 := hs44; try simp only [decide_eq_true_eq, decide_eq_false_iff_not, Bool.not_eq_true', Bool.not_eq_false', Bool.not_true, Bool.not_false] at phs44
           refine ol_g rfl rfl hs44 ?_
           refine ol_r (r_move rfl) rfl ?_
           refine ol_g rfl rfl hs44 ?_
           refine ol_r (r_eql rfl rfl) rfl ?_
           refine ol_r (r_pickF rfl hs44 rfl) rfl ?_
           refine ol_r (r_not rfl) rfl ?_
           refine ol_nil (to_k0 (fun _ _ h => h) (hK9 (_) _ _ ?_ (sub_cons rfl sub_nil) (sub_cons rfl (sub_cons rfl sub_nil)) subH_nil subH_nil))
           try dsimp only
           first
           | exact nn_e (by omega)
     ·have phs16 := hs16; try simp only [decide_eq_true_eq, decide_eq_false_iff_not, Bool.not_eq_true', Bool.not_eq_false', Bool.not_true, Bool.not_false] at phs16
      refine ol_s rfl rfl hs16 rfl ?_
      refine ol_s rfl rfl hs16 rfl ?_
      refine ol_r (r_pickF rfl hs16 rfl) rfl ?_
      refine ol_r (r_move rfl) rfl ?_
      refine ol_g rfl rfl rfl ?_
      refine ol_r (r_move rfl) rfl ?_
      refine ol_g rfl rfl rfl ?_
      refine ol_r (r_geq rfl rfl) rfl ?_
      refine ol_g rfl rfl rfl ?_
      refine ol_r (r_move rfl) rfl ?_
      refine ol_split (d := 23) rfl (fun hs23 => ?_) (fun hs23 => ?_)
      ·have phs23 := hs23; try simp only [decide_eq_true_eq, decide_eq_false_iff_not, Bool.not_eq_true', Bool.not_eq_false', Bool.not_true, Bool.not_false] at phs23
       refine ol_g rfl rfl hs23 ?_
       refine ol_r (r_move rfl) rfl ?_
       refine ol_g rfl rfl hs23 ?_
       refine ol_r (r_leq rfl rfl) rfl ?_
       refine ol_g rfl rfl rfl ?_
       refine ol_r (r_pickT rfl hs23 rfl) rfl ?_
       refine ol_r (r_pickF rfl rfl rfl) rfl ?_
       refine ol_r (r_move rfl) rfl ?_
       refine ol_split (d := 28) rfl (fun hs28 => ?_) (fun hs28 => ?_)
       ·have phs28 := hs28; try simp only [decide_eq_true_eq, decide_eq_false_iff_not, Bool.not_eq_true', Bool.not_eq_false', Bool.not_true, Bool.not_false] at phs28
        refine ol_s rfl rfl hs28 rfl ?_
        refine ol_s rfl rfl hs28 rfl ?_
        refine ol_s rfl rfl hs28 rfl ?_
        refine ol_u rfl rfl rfl ?_
        refine ol_u rfl rfl rfl ?_
        refine ol_s rfl rfl hs28 rfl ?_
        refine ol_r (r_pickT rfl hs28 rfl) rfl ?_
        refine ol_r (r_move rfl) rfl ?_
        refine ol_s rfl rfl rfl rfl ?_
        refine ol_s rfl rfl rfl rfl ?_
        refine ol_r (r_pickT rfl rfl rfl) rfl ?_
        refine ol_r (r_move rfl) rfl ?_
        refine ol_s rfl rfl rfl rfl ?_
        refine ol_s rfl rfl rfl rfl ?_
        refine ol_r (r_pickT rfl rfl rfl) rfl ?_
        refine ol_r (r_move rfl) rfl ?_
        refine ol_s rfl rfl rfl rfl ?_
        refine ol_s rfl rfl rfl rfl ?_
        refine ol_r (r_pickT rfl rfl rfl) rfl ?_
        refine ol_r (r_not rfl) rfl ?_
        refine ol_nil (to_k0 (fun _ _ h => h) (hK9 (_) _ _ ?_ (sub_cons rfl sub_nil) (sub_cons rfl (sub_cons rfl sub_nil)) subH_nil subH_nil))
        try dsimp only
        first
        | exact nn_f (by omega)
       ·have phs28 := hs28; try simp only [decide_eq_true_eq, decide_eq_false_iff_not, Bool.not_eq_true', Bool.not_eq_false', Bool.not_true, Bool.not_false] at phs28
        refine ol_g rfl rfl hs28 ?_
        refine ol_r (r_move rfl) rfl ?_
        refine ol_g rfl rfl hs28 ?_
        refine ol_r (r_geq rfl rfl) rfl ?_
        refine ol_g rfl rfl hs28 ?_
        refine ol_r (r_move rfl) rfl ?_
        refine ol_split (d := 31) rfl (fun hs31 => ?_) (fun hs31 => ?_)
        ·have phs31 := hs31; try simp only [decide_eq_true_eq, decide_eq_false_iff_not, Bool.not_eq_true', Bool.not_eq_false', Bool.not_true, Bool.not_false] at phs31
         refine ol_g rfl rfl hs31 ?_
         refine ol_r (r_move rfl) rfl ?_
         refine ol_g rfl rfl hs31 ?_
         refine ol_r (r_leq rfl rfl) rfl ?_
         refine ol_g rfl rfl hs28 ?_
         refine ol_r (r_pickT rfl hs31 rfl) rfl ?_
         refine ol_r (r_pickF rfl hs28 rfl) rfl ?_
         refine ol_r (r_move rfl) rfl ?_
         refine ol_split (d := 36) rfl (fun hs36 => ?_) (fun hs36 => ?_)
         ·have phs36 := hs36; try simp only [decide_eq_true_eq, decide_eq_false_iff_not, Bool.not_eq_true', Bool.not_eq_false', Bool.not_true, Bool.not_false] at phs36
          refine ol_s rfl rfl hs36 rfl ?_
          refine ol_s rfl rfl hs36 rfl ?_
          refine ol_r (r_pickT rfl hs36 rfl) rfl ?_
          refine ol_r (r_move rfl) rfl ?_
          refine ol_s rfl rfl rfl rfl ?_
          refine ol_s rfl rfl rfl rfl ?_
          refine ol_r (r_pickT rfl rfl rfl) rfl ?_
          refine ol_r (r_move rfl) rfl ?_
          refine ol_s rfl rfl rfl rfl ?_
          refine ol_s rfl rfl rfl rfl ?_
          refine ol_r (r_pickT rfl rfl rfl) rfl ?_
          refine ol_r (r_not rfl) rfl ?_
          refine ol_nil (to_k0 (fun _ _ h => h) (hK9 (_) _ _ ?_ (sub_cons rfl sub_nil) (sub_cons rfl (sub_cons rfl sub_nil)) subH_nil subH_nil))
          try dsimp only
          first
          | exact nn_f (by omega)
         ·have phs36 := hs36; try simp only [decide_eq_true_eq, decide_eq_false_iff_not, Bool.not_eq_true', Bool.not_eq_false', Bool.not_true, Bool.not_false] at phs36
          refine ol_g rfl rfl hs36 ?_
          refine ol_r (r_move rfl) rfl ?_
          refine ol_g rfl rfl hs36 ?_
          refine ol_r (r_eql rfl rfl) rfl ?_
          refine ol_r (r_pickF rfl hs36 rfl) rfl ?_
          refine ol_r (r_move rfl) rfl ?_
          refine ol_split (d := 40) rfl (fun hs40 => ?_) (fun hs40 => ?_)
          ·have phs40 := hs40; try simp only [decide_eq_true_eq, decide_eq_false_iff_not, Bool.not_eq_true', Bool.not_eq_false', Bool.not_true, Bool.not_false] at phs40
           refine ol_s rfl rfl hs40 rfl ?_
           refine ol_s rfl rfl hs40 rfl ?_
           refine ol_r (r_pickT rfl hs40 rfl) rfl ?_
           refine ol_r (r_move rfl) rfl ?_
           refine ol_s rfl rfl rfl rfl ?_
           refine ol_s rfl rfl rfl rfl ?_
           refine ol_r (r_pickT rfl rfl rfl) rfl ?_
           refine ol_r (r_not rfl) rfl ?_
           refine ol_nil (to_k0 (fun _ _ h => h) (hK9 (_) _ _ ?_ (sub_cons rfl sub_nil) (sub_cons rfl (sub_cons rfl sub_nil)) subH_nil subH_nil))
           try dsimp only
           first
           | exact nn_f (by omega)
          ·have phs40 := hs40; try simp only [decide_eq_true_eq, decide_eq_false_iff_not, Bool.not_eq_true', Bool.not_eq_false', Bool.not_true, Bool.not_false] at phs40
           refine ol_g rfl rfl hs40 ?_
           refine ol_r (r_move rfl) rfl ?_
           refine ol_g rfl rfl hs40 ?_
           refine ol_r (r_eql rfl rfl) rfl ?_
           refine ol_r (r_pickF rfl hs40 rfl) rfl ?_
           refine ol_r (r_move rfl) rfl ?_
           refine ol_split (d := 44) rfl (fun hs44 => ?_) (fun hs44 => ?_)
           ·have phs44 := hs44; try simp only [decide_eq_true_eq, decide_eq_false_iff_not, Bool.not_eq_true', Bool.not_eq_false', Bool.not_true, Bool.not_false] at phs44
            refine ol_s rfl rfl hs44 rfl ?_
            refine ol_s rfl rfl hs44 rfl ?_
            refine ol_r (r_pickT rfl hs44 rfl) rfl ?_
            refine ol_r (r_not rfl) rfl ?_
            refine ol_nil (to_k0 (fun _ _ h => h) (hK9 (_) _ _ ?_ (sub_cons rfl sub_nil) (sub_cons rfl (sub_cons rfl sub_nil)) subH_nil subH_nil))
            try dsimp only
            first
            | exact nn_f (by omega)
           ·have phs44 := hs44; try simp only [decide_eq_true_eq, decide_eq_false_iff_not, Bool.not_eq_true', Bool.not_eq_false', Bool.not_true, Bool.not_false] at phs44
            refine ol_g rfl rfl hs44 ?_
            refine ol_r (r_move rfl) rfl ?_
            refine ol_g rfl rfl hs44 ?_
            refine ol_r (r_eql rfl rfl) rfl ?_
            refine ol_r (r_pickF rfl hs44 rfl) rfl ?_
            refine ol_r (r_not rfl) rfl ?_
            refine ol_nil (to_k0 (fun _ _ h => h) (hK9 (_) _ _ ?_ (sub_cons rfl sub_nil) (sub_cons rfl (sub_cons rfl sub_nil)) subH_nil subH_nil))
            try dsimp only
            first
            | exact nn_e (by omega)
        ·have phs31 := hs31; try simp only [decide_eq_true_eq, decide_eq_false_iff_not, Bool.not_eq_true', Bool.not_eq_false', Bool.not_true, Bool.not_false] at phs31
         refine ol_s rfl rfl hs31 rfl ?_
         refine ol_s rfl rfl hs31 rfl ?_
         refine ol_g rfl rfl hs28 ?_
         refine ol_r (r_pickF rfl hs31 rfl) rfl ?_
         refine ol_r (r_pickF rfl hs28 rfl) rfl ?_
         refine ol_r (r_move rfl) rfl ?_
         refine ol_g rfl rfl rfl ?_
         refine ol_r (r_move rfl) rfl ?_
         refine ol_g rfl rfl rfl ?_
         refine ol_r (r_eql rfl rfl) rfl ?_
         refine ol_r (r_pickF rfl rfl rfl) rfl ?_
         refine ol_r (r_move rfl) rfl ?_
         refine ol_split (d := 40) rfl (fun hs40 => ?_) (fun hs40 => ?_)
         ·have phs40 := hs40; try simp only [decide_eq_true_eq, decide_eq_false_iff_not, Bool.not_eq_true', Bool.not_eq_false', Bool.not_true, Bool.not_false] at phs40
          refine ol_s rfl rfl hs40 rfl ?_
          refine ol_s rfl rfl hs40 rfl ?_
          refine ol_r (r_pickT rfl hs40 rfl) rfl ?_
          refine ol_r (r_move rfl) rfl ?_
          refine ol_s rfl rfl rfl rfl ?_
          refine ol_s rfl rfl rfl rfl ?_
          refine ol_r (r_pickT rfl rfl rfl) rfl ?_
          refine ol_r (r_not rfl) rfl ?_
          refine ol_nil (to_k0 (fun _ _ h => h) (hK9 (_) _ _ ?_ (sub_cons rfl sub_nil) (sub_cons rfl (sub_cons rfl sub_nil)) subH_nil subH_nil))
          try dsimp only
          first
          | exact nn_f (by omega)
         ·have phs40 := hs40; try simp only [decide_eq_true_eq, decide_eq_false_iff_not, Bool.not_eq_true', Bool.not_eq_false', Bool.not_true, Bool.not_false] at phs40
          refine ol_g rfl rfl hs40 ?_
          refine ol_r (r_move rfl) rfl ?_
          refine ol_g rfl rfl hs40 ?_
          refine ol_r (r_eql rfl rfl) rfl ?_
          refine ol_r (r_pickF rfl hs40 rfl) rfl ?_
          refine ol_r (r_move rfl) rfl ?_
          refine ol_split (d := 44) rfl (fun hs44 => ?_) (fun hs44 => ?_)
          ·have phs44 := hs44; try simp only [decide_eq_true_eq, decide_eq_false_iff_not, Bool.not_eq_true', Bool.not_eq_false', Bool.not_true, Bool.not_false] at phs44
           refine ol_s rfl rfl hs44 rfl ?_
           refine ol_s rfl rfl hs44 rfl ?_
           refine ol_r (r_pickT rfl hs44 rfl) rfl ?_
           refine ol_r (r_not rfl) rfl ?_
           refine ol_nil (to_k0 (fun _ _ h => h) (hK9 (_) _ _ ?_ (sub_cons rfl sub_nil) (sub_cons rfl (sub_cons rfl sub_nil)) subH_nil subH_nil))
           try dsimp only
           first
           | exact nn_f (by omega)
          ·have phs44 := hs44; try simp only [decide_eq_true_eq, decide_eq_false_iff_not, Bool.not_eq_true', Bool.not_eq_false', Bool.not_true, Bool.not_false] at phs44
           refine ol_g rfl rfl hs44 ?_
           refine ol_r (r_move rfl) rfl ?_
           refine ol_g rfl rfl hs44 ?_
           refine ol_r (r_eql rfl rfl) rfl ?_
           refine ol_r (r_pickF rfl hs44 rfl) rfl ?_
           refine ol_r (r_not rfl) rfl ?_
           refine ol_nil (to_k0 (fun _ _ h => h) (hK9 (_) _ _ ?_ (sub_cons rfl sub_nil) (sub_cons rfl (sub_cons rfl sub_nil)) subH_nil subH_nil))
           try dsimp only
           first
           | exact nn_e (by omega)
      ·have phs23 := hs23; try simp only [decide_eq_true_eq, decide_eq_false_iff_not, Bool.not_eq_true', Bool.not_eq_false', Bool.not_true, Bool.not_false] at phs23
       refine ol_s rfl rfl hs23 rfl ?_
       refine ol_s rfl rfl hs23 rfl ?_
       refine ol_g rfl rfl rfl ?_
       refine ol_r (r_pickF rfl hs23 rfl) rfl ?_
       refine ol_r (r_pickF rfl rfl rfl) rfl ?_
       refine ol_r (r_move rfl) rfl ?_
       refine ol_g rfl rfl rfl ?_
       refine ol_r (r_move rfl) rfl ?_
       refine ol_g rfl rfl rfl ?_
       refine ol_r (r_geq rfl rfl) rfl ?_
       refine ol_g rfl rfl rfl ?_
       refine ol_r (r_move rfl) rfl ?_
       refine ol_split (d := 31) rfl (fun hs31 => ?_) (fun hs31 => ?_)
       ·have phs31 := hs31; try simp only [decide_eq_true_eq, decide_eq_false_iff_not, Bool.not_eq_true', Bool.not_eq_false', Bool.not_true, Bool.not_false] at phs31
        refine ol_g rfl rfl hs31 ?_
        refine ol_r (r_move rfl) rfl ?_
        refine ol_g rfl rfl hs31 ?_
        refine ol_r (r_leq rfl rfl) rfl ?_
        refine ol_g rfl rfl rfl ?_
        refine ol_r (r_pickT rfl hs31 rfl) rfl ?_
        refine ol_r (r_pickF rfl rfl rfl) rfl ?_
        refine ol_r (r_move rfl) rfl ?_
        refine ol_split (d := 36) rfl (fun hs36 => ?_) (fun hs36 => ?_)
        ·have phs36 := hs36; try simp only [decide_eq_true_eq, decide_eq_false_iff_not, Bool.not_eq_true', Bool.not_eq_false', Bool.not_true, Bool.not_false] at phs36
         refine ol_s rfl rfl hs36 rfl ?_
         refine ol_s rfl rfl hs36 rfl ?_
         refine ol_r (r_pickT rfl hs36 rfl) rfl ?_
         refine ol_r (r_move rfl) rfl ?_
         refine ol_s rfl rfl rfl rfl ?_
         refine ol_s rfl rfl rfl rfl ?_
         refine ol_r (r_pickT rfl rfl rfl) rfl ?_
         refine ol_r (r_move rfl) rfl ?_
         refine ol_s rfl rfl rfl rfl ?_
         refine ol_s rfl rfl rfl rfl ?_
         refine ol_r (r_pickT rfl rfl rfl) rfl ?_
         refine ol_r (r_not rfl) rfl ?_
         refine ol_nil (to_k0 (fun _ _ h => h) (hK9 (_) _ _ ?_ (sub_cons rfl sub_nil) (sub_cons rfl (sub_cons rfl sub_nil)) subH_nil subH_nil))
         try dsimp only
         first
         | exact nn_f (by omega)
        ·have phs36 := hs36; try simp only [decide_eq_true_eq, decide_eq_false_iff_not, Bool.not_eq_true', Bool.not_eq_false', Bool.not_true, Bool.not_false] at phs36
         refine ol_g rfl rfl hs36 ?_
         refine ol_r (r_move rfl) rfl ?_
         refine ol_g rfl rfl hs36 ?_
         refine ol_r (r_eql rfl rfl) rfl ?_
         refine ol_r (r_pickF rfl hs36 rfl) rfl ?_
         refine ol_r (r_move rfl) rfl ?_
         refine ol_split (d := 40) rfl (fun hs40 => ?_) (fun hs40 => ?_)
         ·have phs40 := hs40; try simp only [decide_eq_true_eq, decide_eq_false_iff_not, Bool.not_eq_true', Bool.not_eq_false', Bool.not_true, Bool.not_false] at phs40
          refine ol_s rfl rfl hs40 rfl ?_
          refine ol_s rfl rfl hs40 rfl ?_
          refine ol_r (r_pickT rfl hs40 rfl) rfl ?_
          refine ol_r (r_move rfl) rfl ?_
          refine ol_s rfl rfl rfl rfl ?_
          refine ol_s rfl rfl rfl rfl ?_
          refine ol_r (r_pickT rfl rfl rfl) rfl ?_
          refine ol_r (r_not rfl) rfl ?_
          refine ol_nil (to_k0 (fun _ _ h => h) (hK9 (_) _ _ ?_ (sub_cons rfl sub_nil) (sub_cons rfl (sub_cons rfl sub_nil)) subH_nil subH_nil))
          try dsimp only
          first
          | exact nn_f (by omega)
         ·have phs40 := hs40; try simp only [decide_eq_true_eq, decide_eq_false_iff_not, Bool.not_eq_true', Bool.not_eq_false', Bool.not_true, Bool.not_false] at phs40
          refine ol_g rfl rfl hs40 ?_
          refine ol_r (r_move rfl) rfl ?_
          refine ol_g rfl rfl hs40 ?_
          refine ol_r (r_eql rfl rfl) rfl ?_
          refine ol_r (r_pickF rfl hs40 rfl) rfl ?_
          refine ol_r (r_move rfl) rfl ?_
          refine ol_split (d := 44) rfl (fun hs44 => ?_) (fun hs44 => ?_)
          ·have phs44 := hs44; try simp only [decide_eq_true_eq, decide_eq_false_iff_not, Bool.not_eq_true', Bool.not_eq_false', Bool.not_true, Bool.not_false] at phs44
           refine ol_s rfl rfl hs44 rfl ?_
           refine ol_s rfl rfl hs44 rfl ?_
           refine ol_r (r_pickT rfl hs44 rfl) rfl ?_
           refine ol_r (r_not rfl) rfl ?_
           refine ol_nil (to_k0 (fun _ _ h => h) (hK9 (_) _ _ ?_ (sub_cons rfl sub_nil) (sub_cons rfl (sub_cons rfl sub_nil)) subH_nil subH_nil))
           try dsimp only
           first
           | exact nn_f (by omega)
          ·have phs44 := hs44; try simp only [decide_eq_true_eq, decide_eq_false_iff_not, Bool.not_eq_true', Bool.not_eq_false', Bool.not_true, Bool.not_false] at phs44
           refine ol_g rfl rfl hs44 ?_
           refine ol_r (r_move rfl) rfl ?_
           refine ol_g rfl rfl hs44 ?_
           refine ol_r (r_eql rfl rfl) rfl ?_
           refine ol_r (r_pickF rfl hs44 rfl) rfl ?_
           refine ol_r (r_not rfl) rfl ?_
           refine ol_nil (to_k0 (fun _ _ h => h) (hK9 (_) _ _ ?_ (sub_cons rfl sub_nil) (sub_cons rfl (sub_cons rfl sub_nil)) subH_nil subH_nil))
           try dsimp only
           first
           | exact nn_e (by omega)
       ·have phs31 := hs31; try simp only [decide_eq_true_eq, decide_eq_false_iff_not, Bool.not_eq_true', Bool.not_eq_false', Bool.not_true, Bool.not_false] at phs31
        refine ol_s rfl rfl hs31 rfl ?_
        refine ol_s rfl rfl hs31 rfl ?_
        refine ol_g rfl rfl rfl ?_
        refine ol_r (r_pickF rfl hs31 rfl) rfl ?_
        refine ol_r (r_pickF rfl rfl rfl) rfl ?_
        refine ol_r (r_move rfl) rfl ?_
        refine ol_g rfl rfl rfl ?_
        refine ol_r (r_move rfl) rfl ?_
        refine ol_g rfl rfl rfl ?_
        refine ol_r (r_eql rfl rfl) rfl ?_
        refine ol_r (r_pickF rfl rfl rfl) rfl ?_
        refine ol_r (r_move rfl) rfl ?_
        refine ol_split (d := 40) rfl (fun hs40 => ?_) (fun hs40 => ?_)
        ·have phs40 := hs40; try simp only [decide_eq_true_eq, decide_eq_false_iff_not, Bool.not_eq_true', Bool.not_eq_false', Bool.not_true, Bool.not_false] at phs40
         refine ol_s rfl rfl hs40 rfl ?_
         refine ol_s rfl rfl hs40 rfl ?_
         refine ol_r (r_pickT rfl hs40 rfl) rfl ?_
         refine ol_r (r_move rfl) rfl ?_
         refine ol_s rfl rfl rfl rfl ?_
         refine ol_s rfl rfl rfl rfl ?_
         refine ol_r (r_pickT rfl rfl rfl) rfl ?_
         refine ol_r (r_not rfl) rfl ?_
         refine ol_nil (to_k0 (fun _ _ h => h) (hK9 (_) _ _ ?_ (sub_cons rfl sub_nil) (sub_cons rfl (sub_cons rfl sub_nil)) subH_nil subH_nil))
         try dsimp only
         first
         | exact nn_f (by omega)
        ·have phs40 := hs40; try simp only [decide_eq_true_eq, decide_eq_false_iff_not, Bool.not_eq_true', Bool.not_eq_false', Bool.not_true, Bool.not_false] at phs40
         refine ol_g rfl rfl hs40 ?_
         refine ol_r (r_move rfl) rfl ?_
         refine ol_g rfl rfl hs40 ?_
         refine ol_r (r_eql rfl rfl) rfl ?_
         refine ol_r (r_pickF rfl hs40 rfl) rfl ?_
         refine ol_r (r_move rfl) rfl ?_
         refine ol_split (d := 44) rfl (fun hs44 => ?_) (fun hs44 => ?_)
         ·have phs44 := hs44; try simp only [decide_eq_true_eq, decide_eq_false_iff_not, Bool.not_eq_true', Bool.not_eq_false', Bool.not_true, Bool.not_false] at phs44
          refine ol_s rfl rfl hs44 rfl ?_
          refine ol_s rfl rfl hs44 rfl ?_
          refine ol_r (r_pickT rfl hs44 rfl) rfl ?_
          refine ol_r (r_not rfl) rfl ?_
          refine ol_nil (to_k0 (fun _ _ h => h) (hK9 (_) _ _ ?_ (sub_cons rfl sub_nil) (sub_cons rfl (sub_cons rfl sub_nil)) subH_nil subH_nil))
          try dsimp only
          first
          | exact nn_f (by omega)
         ·have phs44 := hs44; try simp only [decide_eq_true_eq, decide_eq_false_iff_not, Bool.not_eq_true', Bool.not_eq_false', Bool.not_true, Bool.not_false] at phs44
          refine ol_g rfl rfl hs44 ?_
          refine ol_r (r_move rfl) rfl ?_
          refine ol_g rfl rfl hs44 ?_
          refine ol_r (r_eql rfl rfl) rfl ?_
          refine ol_r (r_pickF rfl hs44 rfl) rfl ?_
          refine ol_r (r_not rfl) rfl ?_
          refine ol_nil (to_k0 (fun _ _ h => h) (hK9 (_) _ _ ?_ (sub_cons rfl sub_nil) (sub_cons rfl (sub_cons rfl sub_nil)) subH_nil subH_nil))
          try dsimp only
          first
          | exact nn_e (by omega)
    ·rintro b rfl
     refine wp_condNB rfl (fun hc48 => ?_) (fun hc48 => ?_)
     ·refine wp_seq' fun K10 hK10 => ?_
      refine wp_reg ?_
      refine ol_r (r_assign rfl) rfl ?_
      refine ol_nil (to_k0 (fun _ _ h => h) (hK10 _ _ _ _ _ ?_))
      clear hK10
      refine hQ.ret (rvs1 (rv_t rfl)) (fun _ _ h => h) fun w hb hs hB hkd => ?_
      first
        | (refine ⟨?_, hb⟩
           have h1 : nameC (byteAt q k) = false := hc48
           have h2 : nameB q = false := by unfold nameB; rw [bytesAll_not (by omega) h1]; rfl
           rw [h2]
           done)
     ·refine wp_skip' (to_k0 (fun _ _ h => h) (hK7 _ _ _ _ _ ?_))
      clear hK7
      refine wp_reg ?_
      refine ol_r (r_move rfl) rfl ?_
      refine ol_r (r_add rfl rfl (by omega)) rfl ?_
      refine ol_r (r_assign rfl) rfl ?_
      refine ol_nil (to_k0 (fun _ _ h => h) (hK4 (k + 1) _ _ ?_ ?_ (sub_cons rfl sub_nil) (sub_cons rfl sub_nil) (by exact subH_nil) subH_nil))
      ·try dsimp only
       exact ⟨by omega, up_to hP hc48⟩
      ·try dsimp only
       omega
   ·refine wp_exit' (to_k0 (fun _ _ h => h) (hK2 _ _ _ _ _ ?_))
    clear hK2
    refine wp_seq' fun K11 hK11 => ?_
    refine wp_reg ?_
    refine ol_r (r_move rfl) rfl ?_
    refine ol_r (r_lens rfl st9) rfl ?_
    refine ol_r (r_geq rfl rfl) rfl ?_
    refine ol_r (r_move rfl) rfl ?_
    refine ol_split (d := 52) rfl (fun hs52 => ?_) (fun hs52 => ?_)
    ·have phs52 := hs52; try simp only [decide_eq_true_eq, decide_eq_false_iff_not, Bool.not_eq_true', Bool.not_eq_false', Bool.not_true, Bool.not_false] at phs52
     refine ol_g rfl rfl hs52 ?_
     refine ol_r (r_move rfl) rfl ?_
     refine ol_g rfl rfl hs52 ?_
     refine ol_r (r_lens rfl st9) rfl ?_
     refine ol_g rfl rfl hs52 ?_
     refine ol_r (r_leq rfl rfl) rfl ?_
     refine ol_r (r_pickT rfl hs52 rfl) rfl ?_
     refine ol_r (r_assign rfl) rfl ?_
     refine ol_nil (to_k0 (fun _ _ h => h) (hK11 _ _ _ _ _ ?_))
     clear hK11
     refine hQ.ret (rvs1 (rv_t rfl)) (fun _ _ h => h) fun w hb hs hB hkd => ?_
     first
       | (refine ⟨?_, hb⟩
          have h1 : bytesAll nameC q = true := bytesAll_iff.2 fun i hi => hP i (by omega)
          unfold nameB
          rw [h1]
          congr 2
          simp only [Bool.true_and]
          first
            | (rw [decide_eq_true (show 1 ≤ q.size by omega), Bool.true_and, decide_eq_decide]; omega)
            | (rw [decide_eq_false (show ¬1 ≤ q.size by omega)]; rfl))
    ·have phs52 := hs52; try simp only [decide_eq_true_eq, decide_eq_false_iff_not, Bool.not_eq_true', Bool.not_eq_false', Bool.not_true, Bool.not_false] at phs52
     refine ol_s rfl rfl hs52 rfl ?_
     refine ol_s rfl rfl hs52 rfl ?_
     refine ol_s rfl rfl hs52 rfl ?_
     refine ol_r (r_pickF rfl hs52 rfl) rfl ?_
     refine ol_r (r_assign rfl) rfl ?_
     refine ol_nil (to_k0 (fun _ _ h => h) (hK11 _ _ _ _ _ ?_))
     clear hK11
     refine hQ.ret (rvs1 (rv_t rfl)) (fun _ _ h => h) fun w hb hs hB hkd => ?_
     first
       | (refine ⟨?_, hb⟩
          have h1 : bytesAll nameC q = true := bytesAll_iff.2 fun i hi => hP i (by omega)
          unfold nameB
          rw [h1]
          congr 2
          simp only [Bool.true_and]
          first
            | (rw [decide_eq_true (show 1 ≤ q.size by omega), Bool.true_and, decide_eq_decide]; omega)
            | (rw [decide_eq_false (show ¬1 ≤ q.size by omega)]; rfl))
end Go.Proofs.Ytafkojlccknicaa

/-
  Books: the program's Add and Remove.
-/


namespace Go.Proofs.Ytafkojlccknicaa
open Go Go.RowKit Hx
set_option linter.unusedVariables false
set_option linter.unusedSimpArgs false
set_option maxRecDepth 8000
/-- Any number of the caller's entries. -/
def tailE : Nat → List Ent → HL
  | _, [] => []
  | b, e :: r => (b, e) :: tailE (b + 1) r
theorem look_tailE : ∀ {es : List Ent} {b j : Nat} {e : Ent}, es[j]? = some e → Hx.look (tailE b es) (b + j) = some e
  | [], b, j, e, h => by simp at h
  | y :: r, b, 0, e, h => by cases h; exact look_cons_eq _ _ _
  | y :: r, b, j + 1, e, h => by
    rw [tailE, look_cons_ne _ _ (by omega), show b + (j + 1) = b + 1 + j by omega]
    exact look_tailE (es := r) h
theorem look_tailE_none : ∀ {es : List Ent} {b i : Nat}, i < b ∨ b + es.length ≤ i → Hx.look (tailE b es) i = none
  | [], _, _, _ => rfl
  | y :: r, b, i, h => by
    rw [List.length_cons] at h
    rw [tailE, look_cons_ne _ _ (by omega)]
    exact look_tailE_none (es := r) (by omega)
theorem subH_tailE {H' : HL} : ∀ {es : List Ent} {b : Nat}, (∀ j e, es[j]? = some e → Hx.look H' (b + j) = some e) → SubH (tailE b es) H'
  | [], _, _ => trivial
  | y :: r, b, h => ⟨⟨_, h 0 y rfl, Ent.le_refl _⟩, subH_tailE (es := r) fun j x hj => by rw [show b + 1 + j = b + (j + 1) by omega]; exact h (j + 1) x hj⟩
abbrev own1 (bb bm : Nat) (az : Option Addr) (nz cz : Nat) (zs : List Int) (D : DM) : HL := [(301, .blk bb [(0, .slice az nz cz), (1, .map (some bm))] 128), (302, .ob bm (MapO (pEnc Value.string slV D))), (303, .row az nz cz (encI.enc zs) 3 1)]
abbrev rowB (a : Option Addr) (c : Nat) (cs : List BestR) : Ent := .row a cs.length c (encBest.enc cs) 24 4
theorem subH_snoc {H' : HL} {es : List Ent} {e : Ent} {b : Nat} (h1 : ∀ j x, es[j]? = some x → Hx.look H' (b + j) = some x) (h2 : Hx.look H' (b + es.length) = some e) : SubH (tailE b (es ++ [e])) H' := by
  refine subH_tailE fun j x hj => ?_
  by_cases hjl : j < es.length
  · rw [List.getElem?_append_left hjl] at hj; exact h1 j x hj
  · have hl := (List.getElem?_eq_some_iff.1 hj).1
    rw [List.length_append, List.length_singleton] at hl
    obtain rfl : j = es.length := by omega
    rw [List.getElem?_append_right (Nat.le_refl _), Nat.sub_self] at hj
    cases hj; exact h2
theorem eff_Add (B : Nat) (w : World) (es : List Ent) (bb bm : Nat) (az : Option Addr) (nz cz : Nat) (zs : List Int) (D : DM) (nm : ByteArray) (a : Option Addr) (n c : Nat) (cs : List BestR) (hB0 : B ≤ w.heap.size) (hx : Rd encBest B w a n c cs) (hn : n ≤ 4398046511104) (hq : nm.size ≤ 9223372036854775807) (hln : D.length ≤ 5000)
    (hs0 : Sat B w (own1 bb bm az nz cz zs D ++ tailE 1500 es)) :
    Calls Try.prog 56 #[.pointer (some ⟨bb, 0, none⟩), .string nm, .slice a n c] w fun e w' => e = .returned (.int .i64 (addR (pO D nm).isSome D.length zs nm cs)) ∧ Below B w w' ∧
      (if addR (pO D nm).isSome D.length zs nm cs = 0 then ∃ a' c', Sat B w' (own1 bb bm az nz cz zs (Hx.pS D nm (a', cs.length, c')) ++ tailE 1500 (es ++ [rowB a' c' cs])) else Sat B w' (own1 bb bm az nz cz zs D ++ tailE 1500 es)) ∧ B ≤ w'.heap.size ∧ Kd (fun _ => True) w w' := by
  have hxl := hx.len
  refine enterQ (N := 52) (C := fun _ => True) (H := own1 bb bm az nz cz zs D ++ tailE 1500 es) (B := B) (args := [_, _, _]) Try.func56 rfl rfl rfl (hB0) (hs0) fun Q hQ => ?_
  refine wp_seq' fun K1 hK1 => ?_
  refine wp_reg ?_
  refine ol_r (r_assign rfl) rfl ?_
  refine ol_nil (to_k0 (fun _ _ h => h) (hK1 _ _ _ _ _ ?_))
  clear hK1
  refine wp_seq' fun K2 hK2 => ?_
  refine wp_seq' fun K3 hK3 => ?_
  refine wp_reg ?_
  refine ol_r (r_move rfl) rfl ?_
  refine ol_call rfl rfl cb103 rfl (fun w1 hb1 hs1 hB1 => Calls.mono (quant_IsName nm _ hq) ?_)
  rintro e w2 ⟨rfl, hb2⟩
  refine After.below rfl hb1 hs1 hB1 hb2 ?_
  clear hb2 hB1 hs1 hb1 w2 w1
  refine ol_r (r_not rfl) rfl ?_
  refine ol_nil (to_k0 (fun _ _ h => h) (hK3 _ _ _ _ _ ?_))
  clear hK3
  first | refine wp_condD rfl (fun hc12 => ?_) (fun hc12 => ?_) | refine wp_condN rfl (fun hc12 => ?_) (fun hc12 => ?_) | refine wp_condNB rfl (fun hc12 => ?_) (fun hc12 => ?_) | refine wp_cond' rfl (fun hc12 => ?_) (fun hc12 => ?_)
  ·refine wp_seq' fun K4 hK4 => ?_
   refine wp_reg ?_
   refine ol_r (r_assign rfl) rfl ?_
   refine ol_nil (to_k0 (fun _ _ h => h) (hK4 _ _ _ _ _ ?_))
   clear hK4
   refine hQ.ret (rvs1 (rv_t rfl)) (fun _ _ h => h) fun w hb hs hB hkd => ?_
   have h0 := addR_8 (has := (pO D nm).isSome) (len := D.length) (zs := zs) (cs := cs) (show nameB nm = false by simpa using hc12)
   exact ⟨by rw [h0], hb, by rw [h0, if_neg (by decide)]; exact hs.sub (subH_same rfl (subH_same rfl (subH_same rfl (subH_tailE fun j x hj => by simp only [List.cons_append, List.nil_append]; (repeat' refine (look_cons_ne _ _ (by omega)).trans ?_); exact look_tailE hj)))), hB, hkd⟩
  ·refine wp_skip' (to_k0 (fun _ _ h => h) (hK2 _ _ _ _ _ ?_))
   clear hK2
   refine wp_seq' fun K5 hK5 => ?_
   refine wp_seq' fun K6 hK6 => ?_
   refine wp_reg ?_
   refine ol_r (r_move rfl) rfl ?_
   refine ol_call rfl rfl cb52 rfl (fun w1 hb1 hs1 hB1 => Calls.mono (eff_CheckCurve _ _ _ cs _ (hx.at hb1 hB1) hn) ?_)
   rintro e w2 ⟨rfl, hb2⟩
   refine After.below rfl hb1 hs1 hB1 hb2 ?_
   clear hb2 hB1 hs1 hb1 w2 w1
   refine ol_r (r_assign rfl) rfl ?_
   refine ol_nil (to_k0 (fun _ _ h => h) (hK6 _ _ _ _ _ ?_))
   clear hK6
   refine wp_seq' fun K7 hK7 => ?_
   refine wp_reg ?_
   refine ol_r (r_move rfl) rfl ?_
   refine ol_r (r_neq rfl rfl) rfl ?_
   refine ol_nil (to_k0 (fun _ _ h => h) (hK7 _ _ _ _ _ ?_))
   clear hK7
   first | refine wp_condD rfl (fun hc16 => ?_) (fun hc16 => ?_) | refine wp_condN rfl (fun hc16 => ?_) (fun hc16 => ?_) | refine wp_condNB rfl (fun hc16 => ?_) (fun hc16 => ?_) | refine wp_cond' rfl (fun hc16 => ?_) (fun hc16 => ?_)
   ·refine wp_seq' fun K8 hK8 => ?_
    refine wp_reg ?_
    refine ol_r (r_move rfl) rfl ?_
    refine ol_r (r_assign rfl) rfl ?_
    refine ol_nil (to_k0 (fun _ _ h => h) (hK8 _ _ _ _ _ ?_))
    clear hK8
    refine hQ.ret (rvs1 (rv_t rfl)) (fun _ _ h => h) fun w hb hs hB hkd => ?_
    have h0 := addR_c (has := (pO D nm).isSome) (len := D.length) (zs := zs) (cs := cs) (show nameB nm = true by simpa using hc12) hc16
    exact ⟨by rw [h0], hb, by rw [h0, if_neg hc16]; exact hs.sub (subH_same rfl (subH_same rfl (subH_same rfl (subH_tailE fun j x hj => by simp only [List.cons_append, List.nil_append]; (repeat' refine (look_cons_ne _ _ (by omega)).trans ?_); exact look_tailE hj)))), hB, hkd⟩
   ·refine wp_skip' (to_k0 (fun _ _ h => h) (hK5 _ _ _ _ _ ?_))
    clear hK5
    refine wp_seq' fun K9 hK9 => ?_
    refine wp_reg ?_
    refine ol_r (r_move rfl) rfl ?_
    refine ol_r (r_nilS rfl (rfl)) rfl ?_
    refine ol_r (r_fa (o' := 1) rfl fl128_1 rfl) rfl ?_
    refine ol_r (r_ld (id := 301) rfl rfl rfl sc81) rfl ?_
    refine ol_r (r_move rfl) rfl ?_
    refine ol_r (r_look2 (K := Value.string) (V := slV) (z := nilS) (k := nm) (id := 302) rfl rfl rfl mk81) rfl ?_
    refine ol_r (r_move rfl) rfl ?_
    refine ol_r (r_extract rfl rfl) rfl ?_
    refine ol_r (r_extract rfl rfl) rfl ?_
    refine ol_r (r_assign rfl) rfl ?_
    refine ol_r (r_assign rfl) rfl ?_
    refine ol_nil (to_k0 (fun _ _ h => h) (hK9 _ _ _ _ _ ?_))
    clear hK9
    refine wp_seq' fun K10 hK10 => ?_
    refine wp_block' ?_
    refine wp_seq' fun K11 hK11 => ?_
    refine wp_rega [(999, [(301, _), (302, _), (303, _)])] (by kernel_rfl) ⟨.inr (subH_same rfl (subH_same rfl (subH_same rfl subH_nil))), trivial⟩ ?_
    refine aq_r 0 999 rfl (by kernel_rfl) (by kernel_rfl) (by kernel_rfl) (.head _) (by kernel_rfl) (by kernel_rfl) rfl (r_move rfl) ?_
    refine aq_r 2 999 rfl (by kernel_rfl) (by kernel_rfl) (by kernel_rfl) (.head _) (by kernel_rfl) (by kernel_rfl) rfl (r_move rfl) ?_
    refine aq_r 3 999 rfl (by kernel_rfl) (by kernel_rfl) (by kernel_rfl) (.head _) (by kernel_rfl) (by kernel_rfl) rfl (r_nilS rfl (rfl)) ?_
    refine aq_r 4 999 rfl (by kernel_rfl) (by kernel_rfl) (by kernel_rfl) (.head _) (by kernel_rfl) (by kernel_rfl) rfl (r_fa (o' := 0) rfl fl128_0 rfl) ?_
    refine aq_r 5 999 rfl (by kernel_rfl) (by kernel_rfl) (by kernel_rfl) (.head _) (by kernel_rfl) (by kernel_rfl) rfl (r_ld (id := 301) rfl rfl rfl sc22) ?_
    refine aq_one (i := 1) (by kernel_rfl) rfl fun K12 hK12 => ?_
    refine ol_call rfl rfl cb95 rfl (fun w1 hb1 hs1 hB1 => Calls.mono (eff_sizesOf _ _ _ cs _ (hx.at hb1 hB1) hn) ?_)
    rintro e w2 ⟨a29, n29, c29, rfl, hf29⟩
    refine After.fresh (id := 29) rfl hb1 hs1 hB1 hf29 ?_
    have hl29 := hf29.len; clear hf29 hB1 hs1 hb1 w2 w1
    refine ol_nil (to_k0 (fun _ _ h => h) (hK12 _ _ ⟨.inr (by repeat' first | exact subH_nil | refine subH_same rfl ?_ | (refine subH_blk rfl (by repeat' first | exact sub_nil | refine sub_cons rfl ?_) ?_)), trivial⟩ ?_))
    clear hK12
    refine aq_one (i := 6) (by kernel_rfl) rfl fun K13 hK13 => ?_
    refine ol_call rfl rfl cb26 rfl (fun w1 hb1 hs1 hB1 => Calls.mono (equal_int _ _ _ _ _ _ (szs cs) zs _ (Sat.rd hs1 (E := encI) (id := 29) rfl rfl) (Sat.rd hs1 (E := encI) (id := 303) rfl rfl)) ?_)
    rintro e w2 ⟨rfl, hb2⟩
    refine After.below rfl hb1 hs1 hB1 hb2 ?_
    clear hb2 hB1 hs1 hb1 w2 w1
    refine ol_nil (to_k0 (fun _ _ h => h) (hK13 _ _ ⟨.inr (by repeat' first | exact subH_nil | refine subH_same rfl ?_ | (refine subH_blk rfl (by repeat' first | exact sub_nil | refine sub_cons rfl ?_) ?_)), trivial⟩ ?_))
    clear hK13
    refine aq_r 7 999 rfl (by kernel_rfl) (by kernel_rfl) (by kernel_rfl) (.head _) (by kernel_rfl) (by kernel_rfl) rfl (r_not rfl) ?_
    refine aq_r 8 999 rfl (by kernel_rfl) (by kernel_rfl) (by kernel_rfl) (.head _) (by kernel_rfl) (by kernel_rfl) rfl (r_assign rfl) ?_
    refine aq_done (by kernel_rfl) ?_
    refine (to_k0 (fun _ _ h => h) (hK11 _ _ _ _ _ ?_))
    clear hK11
    first | refine wp_condD rfl (fun hc27 => ?_) (fun hc27 => ?_) | refine wp_condN rfl (fun hc27 => ?_) (fun hc27 => ?_) | refine wp_condNB rfl (fun hc27 => ?_) (fun hc27 => ?_) | refine wp_cond' rfl (fun hc27 => ?_) (fun hc27 => ?_)
    ·refine wp_seq' fun K14 hK14 => ?_
     refine wp_reg ?_
     refine ol_r (r_assign rfl) rfl ?_
     refine ol_nil (to_k0 (fun _ _ h => h) (hK14 _ _ _ _ _ ?_))
     clear hK14
     refine hQ.ret (rvs1 (rv_t rfl)) (fun _ _ h => h) fun w hb hs hB hkd => ?_
     have h0 := addR_2 (has := (pO D nm).isSome) (len := D.length) (zs := zs) (cs := cs) (show nameB nm = true by simpa using hc12) hc16 (by simpa using hc27)
     exact ⟨by rw [h0], hb, by rw [h0, if_neg (by decide)]; exact hs.sub (subH_same rfl (subH_same rfl (subH_same rfl (subH_tailE fun j x hj => by simp only [List.cons_append, List.nil_append]; (repeat' refine (look_cons_ne _ _ (by omega)).trans ?_); exact look_tailE hj)))), hB, hkd⟩
    ·refine wp_seq' fun K15 hK15 => ?_
     refine wp_reg ?_
     refine ol_r (r_move rfl) rfl ?_
     refine ol_r (r_assign rfl) rfl ?_
     refine ol_nil (to_k0 (fun _ _ h => h) (hK15 _ _ _ _ _ ?_))
     clear hK15
     first | refine wp_condD rfl (fun hc36 => ?_) (fun hc36 => ?_) | refine wp_condN rfl (fun hc36 => ?_) (fun hc36 => ?_) | refine wp_condNB rfl (fun hc36 => ?_) (fun hc36 => ?_) | refine wp_cond' rfl (fun hc36 => ?_) (fun hc36 => ?_)
     ·refine wp_seq' fun K16 hK16 => ?_
      refine wp_reg ?_
      refine ol_r (r_assign rfl) rfl ?_
      refine ol_nil (to_k0 (fun _ _ h => h) (hK16 _ _ _ _ _ ?_))
      clear hK16
      refine hQ.ret (rvs1 (rv_t rfl)) (fun _ _ h => h) fun w hb hs hB hkd => ?_
      have h0 := addR_5 (has := (pO D nm).isSome) (len := D.length) (zs := zs) (cs := cs) (show nameB nm = true by simpa using hc12) hc16 (by simpa using hc27) (by simpa using hc36)
      exact ⟨by rw [h0], hb, by rw [h0, if_neg (by decide)]; exact hs.sub (subH_same rfl (subH_same rfl (subH_same rfl (subH_tailE fun j x hj => by simp only [List.cons_append, List.nil_append]; (repeat' refine (look_cons_ne _ _ (by omega)).trans ?_); exact look_tailE hj)))), hB, hkd⟩
     ·refine wp_seq' fun K17 hK17 => ?_
      refine wp_reg ?_
      refine ol_r (r_move rfl) rfl ?_
      refine ol_r (r_nilS rfl (rfl)) rfl ?_
      refine ol_r (r_fa (o' := 1) rfl fl128_1 rfl) rfl ?_
      refine ol_r (r_ld (id := 301) rfl rfl rfl sc81) rfl ?_
      refine ol_r (r_mlen (K := Value.string) (V := slV) (z := nilS) (id := 302) rfl rfl mk81) rfl ?_
      refine ol_r (r_geq rfl rfl) rfl ?_
      refine ol_r (r_assign rfl) rfl ?_
      refine ol_nil (to_k0 (fun _ _ h => h) (hK17 _ _ _ _ _ ?_))
      clear hK17
      first | refine wp_condD rfl (fun hc38 => ?_) (fun hc38 => ?_) | refine wp_condN rfl (fun hc38 => ?_) (fun hc38 => ?_) | refine wp_condNB rfl (fun hc38 => ?_) (fun hc38 => ?_) | refine wp_cond' rfl (fun hc38 => ?_) (fun hc38 => ?_)
      ·refine wp_seq' fun K18 hK18 => ?_
       refine wp_reg ?_
       refine ol_r (r_assign rfl) rfl ?_
       refine ol_nil (to_k0 (fun _ _ h => h) (hK18 _ _ _ _ _ ?_))
       clear hK18
       refine hQ.ret (rvs1 (rv_t rfl)) (fun _ _ h => h) fun w hb hs hB hkd => ?_
       have h0 := addR_3 (has := (pO D nm).isSome) (len := D.length) (zs := zs) (cs := cs) (show nameB nm = true by simpa using hc12) hc16 (by simpa using hc27) (by simpa using hc36) (by omega)
       exact ⟨by rw [h0], hb, by rw [h0, if_neg (by decide)]; exact hs.sub (subH_same rfl (subH_same rfl (subH_same rfl (subH_tailE fun j x hj => by simp only [List.cons_append, List.nil_append]; (repeat' refine (look_cons_ne _ _ (by omega)).trans ?_); exact look_tailE hj)))), hB, hkd⟩
      ·refine wp_skip' (to_k0 (fun _ _ h => h) (hK10 _ _ _ _ _ ?_))
       clear hK10
       refine wp_seq' fun K19 hK19 => ?_
       refine wp_rega [(999, [(29, _), (301, _), (303, _)]), (7, [(302, _)])] (by kernel_rfl) ⟨.inr (subH_same rfl (subH_same rfl (subH_same rfl subH_nil))), ⟨.inr (subH_same rfl subH_nil), trivial⟩⟩ ?_
       refine aq_r 0 999 rfl (by kernel_rfl) (by kernel_rfl) (by kernel_rfl) (.head _) (by kernel_rfl) (by kernel_rfl) rfl (r_move rfl) ?_
       refine aq_r 1 999 rfl (by kernel_rfl) (by kernel_rfl) (by kernel_rfl) (.head _) (by kernel_rfl) (by kernel_rfl) rfl (r_nilS rfl (rfl)) ?_
       refine aq_r 2 999 rfl (by kernel_rfl) (by kernel_rfl) (by kernel_rfl) (.head _) (by kernel_rfl) (by kernel_rfl) rfl (r_fa (o' := 1) rfl fl128_1 rfl) ?_
       refine aq_r 3 999 rfl (by kernel_rfl) (by kernel_rfl) (by kernel_rfl) (.head _) (by kernel_rfl) (by kernel_rfl) rfl (r_ld (id := 301) rfl rfl rfl sc81) ?_
       refine aq_r 4 999 rfl (by kernel_rfl) (by kernel_rfl) (by kernel_rfl) (.head _) (by kernel_rfl) (by kernel_rfl) rfl (r_move rfl) ?_
       refine aq_r 5 999 rfl (by kernel_rfl) (by kernel_rfl) (by kernel_rfl) (.head _) (by kernel_rfl) (by kernel_rfl) rfl (r_move rfl) ?_
       refine aq_one (i := 6) (by kernel_rfl) rfl fun K20 hK20 => ?_
       refine ol_call rfl rfl cb104 rfl (fun w1 hb1 hs1 hB1 => Calls.mono (clone_best _ _ _ cs _ (hx.at hb1 hB1) hn) ?_)
       rintro e w2 ⟨a51, n51, c51, rfl, hf51⟩
       refine After.fresh (id := 51) rfl hb1 hs1 hB1 hf51 ?_
       have hl51 := hf51.len; clear hf51 hB1 hs1 hb1 w2 w1
       refine ol_nil (to_k0 (fun _ _ h => h) (hK20 _ _ ⟨.inr (by repeat' first | exact subH_nil | refine subH_same rfl ?_ | (refine subH_blk rfl (by repeat' first | exact sub_nil | refine sub_cons rfl ?_) ?_)), ⟨.inr (by repeat' first | exact subH_nil | refine subH_same rfl ?_ | (refine subH_blk rfl (by repeat' first | exact sub_nil | refine sub_cons rfl ?_) ?_)), trivial⟩⟩ ?_))
       clear hK20
       refine aq_one (i := 7) (by kernel_rfl) rfl fun K21 hK21 => ?_
       refine ol_mapset (K := Value.string) (V := slV) (z := nilS) (k := nm) (v := (a51, n51, c51)) (id := 302) rfl rfl rfl rfl mk81 trivial ?_
       refine ol_nil (to_k0 (fun _ _ h => h) (hK21 _ _ ⟨.inr (by repeat' first | exact subH_nil | refine subH_same rfl ?_ | (refine subH_blk rfl (by repeat' first | exact sub_nil | refine sub_cons rfl ?_) ?_)), ⟨.inl (by kernel_rfl), trivial⟩⟩ ?_))
       clear hK21
       refine aq_done (by kernel_rfl) ?_
       refine (to_k0 (fun _ _ h => h) (hK19 _ _ _ _ _ ?_))
       clear hK19
       refine wp_seq' fun K22 hK22 => ?_
       refine wp_reg ?_
       refine ol_r (r_assign rfl) rfl ?_
       refine ol_nil (to_k0 (fun _ _ h => h) (hK22 _ _ _ _ _ ?_))
       clear hK22
       refine hQ.ret (rvs1 (rv_t rfl)) (fun _ _ h => h) fun w hb hs hB hkd => ?_
       have h0 := addR_0 (has := (pO D nm).isSome) (len := D.length) (zs := zs) (cs := cs) (show nameB nm = true by simpa using hc12) hc16 (by simpa using hc27) (by simpa using hc36) (by omega)
       refine ⟨by rw [h0], hb, ?_, hB, hkd⟩
       rw [h0, if_pos rfl]
       subst hl51
       have h3 := hs.rekey (i := 51) (j := 1500 + es.length) rfl (by omega)
       refine ⟨a51, c51, h3.sub ?_⟩
       refine subH_same ?_ (subH_same ?_ (subH_same ?_ (subH_snoc (fun j x hj => ?_) (look_cons_eq _ _ _))))
       · exact (look_cons_ne _ _ (by omega)).trans rfl
       · exact (look_cons_ne _ _ (by omega)).trans rfl
       · exact (look_cons_ne _ _ (by omega)).trans rfl
       · have hjl := (List.getElem?_eq_some_iff.1 hj).1
         simp only [List.cons_append, List.nil_append]
         repeat' refine (look_cons_ne _ _ (by omega)).trans ?_
         exact look_tailE hj
end Go.Proofs.Ytafkojlccknicaa

/-
  More rules: appends of a part of a slice that is one's own.
-/

namespace Go.Proofs.Ytafkojlccknicaa.Hx
open Go Go.RowKit
set_option linter.unusedVariables false
set_option linter.unusedSimpArgs false
section
variable {P : Program} {N : Fr} {B : Nat} {w0 : World} {Q : Exit → Act → World → Prop} {al : AL} {H : HL} {ops rest : List Oper} {d : Nat} {ty : TypeId} {pos : String} {after : Array Edge}
theorem Runs.val {op : Op} {v v' : Value} (e : v = v') (h : Runs P N B w0 op ty al H v) : Runs P N B w0 op ty al H v' := e ▸ h
theorem Rd.partAt {α : Type} {E : Enc α} {a p : Option Addr} {n cap q l h C : Nat} {xs : List α} {w : World} (hl : Rd E C w a n cap xs) (e : sliced a l h cap E.size = .slice p (h - l) q) (h1 : l ≤ h) (h2 : h ≤ n) : Rd E C w p (h - l) q ((xs.drop l).take (h - l)) := by
  obtain ⟨a', c', e', h3⟩ := hl.part h1 h2
  rw [e] at e'; cases e'; exact h3
theorem Sat.tail {B id : Nat} {e : Ent} {H : HL} {w : World} (h : Sat B w ((id, e) :: H)) (hn : look H id = none) : Sat B w H :=
  ⟨fun i f hf => h.ok i f (by
    by_cases hi : id = i
    · subst hi; rw [hn] at hf; cases hf
    · rwa [look_cons_ne _ _ hi]), fun i j f g hij hf hg => h.apart i j f g hij (by
    by_cases hi : id = i
    · subst hi; rw [hn] at hf; cases hf
    · rwa [look_cons_ne _ _ hi]) (by
    by_cases hi : id = j
    · subst hi; rw [hn] at hg; cases hg
    · rwa [look_cons_ne _ _ hi])⟩
theorem ol_appendRW {α : Type} (E : Enc α) {s x : Operand} {id n cap m c : Nat} {a ad : Option Addr} {xs ys : List α} {t e : TypeId} {size bytes : Nat} (hl : ∀ w1, Below B w0 w1 → Sat B w1 H → B ≤ w1.heap.size → Rd E w1.heap.size w1 ad m c ys) (hs : ev al s = some (.slice a n cap)) (hr : look H id = some (.row a n cap (E.enc xs) e size))
    (hx : ev al x = some (.slice ad m c)) (hz : size = E.size) (hT : RowT P t e size bytes)
    (hb : n + m ≤ 9223372036854775807 ∧ (n + m) * bytes ≤ 140737488355328) (hd : Nat.blt d N.n = true)
    (k : ∀ a' cap', OL P N B w0 ops rest Q ((d, .slice a' (n + m) cap') :: al) ((id, .row a' (n + m) cap' (E.enc (xs ++ ys)) e size) :: H)) :
    OL P N B w0 ops ({ dst := some d, op := .call { callee := .builtin .append, args := #[s, x], argTypes := #[t, t] }, type := ty, pos, after, guard := none } :: rest) Q al H := by
  intro a0 w hst
  have hl0 := hl w hst.below hst.sat hst.base
  have hlen := hl0.len
  cases ad with
  | none =>
    have hm : m = 0 := by
      cases m with
      | zero => rfl
      | succ m => have := hl0.isSome (by omega); simp at this
    subst hm
    have hys : ys = [] := List.eq_nil_of_length_eq_zero hlen
    subst hys
    refine ol_append0 hs hr hx hT hd ?_ a0 w hst
    have h := k a cap
    simpa using h
  | some p =>
    refine ol_append (id := id) (news := E.enc ys) hs hr hx hT (by rw [Enc.enc_len, hlen, hz]) (E.ones_enc ys) (fun w1 hb1 hs1 hB1 => ⟨p, rfl, (hl w1 hb1 hs1 hB1).flat rfl⟩) hb hd (fun a' c' => ?_) a0 w hst
    have h := k a' c'
    rwa [Enc.enc_append] at h
end
end Go.Proofs.Ytafkojlccknicaa.Hx

/-
  Books: Remove, and the reference's Add and Remove.
-/


namespace Go.Proofs.Ytafkojlccknicaa
open Go Go.RowKit Hx
set_option linter.unusedVariables false
set_option linter.unusedSimpArgs false
set_option maxRecDepth 8000
theorem pKeys_pD {β : Type} {D : List (ByteArray × β)} {k x : ByteArray} (h : (pKeys D).Nodup) : x ∈ pKeys (pD D k) ↔ x ∈ pKeys D ∧ x ≠ k := by
  have h1 := pO_pD k x h
  have h2 : ∀ {E : List (ByteArray × β)} {y : ByteArray}, y ∈ pKeys E ↔ pO E y ≠ none := fun {E y} => by
    rw [Ne, pO_none]; exact ⟨fun h h2 => h2 h, fun h => Classical.not_not.1 h⟩
  rw [h2, h1, h2]
  by_cases hk : k = x
  · rw [if_pos hk]; simp [hk]
  · rw [if_neg hk]; exact ⟨fun h => ⟨h, fun he => hk he.symm⟩, fun h => h.1⟩
theorem isSome_mem {β : Type} {D : List (ByteArray × β)} {k : ByteArray} : (pO D k).isSome = true ↔ k ∈ pKeys D := by
  have := pO_none (k := k) (D := D)
  cases h : pO D k with
  | none => simp [this.1 h]
  | some v =>
    rw [h] at this
    simp only [Option.isSome_some, true_iff]
    exact Classical.not_not.1 fun h2 => by cases this.2 h2
abbrev own2 (xb xm : Nat) (az : Option Addr) (nz cz : Nat) (zs : List Int) (an : Option Addr) (nn cn : Nat) (names : List ByteArray) (D : DM) : HL := [(401, .blk xb [(0, .slice az nz cz), (1, .slice an nn cn), (2, .map (some xm))] 130), (402, .ob xm (MapO (pEnc Value.string slV D))), (403, .row az nz cz (encI.enc zs) 3 1), (404, .row an nn cn (encStr.enc names) 9 1)]
theorem eff_Remove (B : Nat) (w : World) (es : List Ent) (bb bm : Nat) (az : Option Addr) (nz cz : Nat) (zs : List Int) (D : DM) (nm : ByteArray) (hB0 : B ≤ w.heap.size) (hs0 : Sat B w (own1 bb bm az nz cz zs D ++ tailE 1500 es)) :
    Calls Try.prog 58 #[.pointer (some ⟨bb, 0, none⟩), .string nm] w fun e w' => e = .returned (.int .i64 (if (pO D nm).isSome = true then 0 else 4)) ∧ Below B w w' ∧ Sat B w' (own1 bb bm az nz cz zs (pD D nm) ++ tailE 1500 es) ∧ B ≤ w'.heap.size ∧ Kd (fun _ => True) w w' := by
  refine enterQ (N := 23) (C := fun _ => True) (H := own1 bb bm az nz cz zs D ++ tailE 1500 es) (B := B) (args := [_, _]) Try.func58 rfl rfl rfl (hB0) (hs0) fun Q hQ => ?_
  refine wp_seq' fun K1 hK1 => ?_
  refine wp_reg ?_
  refine ol_r (r_assign rfl) rfl ?_
  refine ol_nil (to_k0 (fun _ _ h => h) (hK1 _ _ _ _ _ ?_))
  clear hK1
  refine wp_seq' fun K2 hK2 => ?_
  refine wp_seq' fun K3 hK3 => ?_
  refine wp_reg ?_
  refine ol_r (r_move rfl) rfl ?_
  refine ol_r (r_nilS rfl (rfl)) rfl ?_
  refine ol_r (r_fa (o' := 1) rfl fl128_1 rfl) rfl ?_
  refine ol_r (r_ld (id := 301) rfl rfl rfl sc81) rfl ?_
  refine ol_r (r_move rfl) rfl ?_
  refine ol_r (r_look2 (K := Value.string) (V := slV) (z := nilS) (k := nm) (id := 302) rfl rfl rfl mk81) rfl ?_
  refine ol_r (r_move rfl) rfl ?_
  refine ol_r (r_extract rfl rfl) rfl ?_
  refine ol_r (r_extract rfl rfl) rfl ?_
  refine ol_r (r_assign rfl) rfl ?_
  refine ol_r (r_assign rfl) rfl ?_
  refine ol_nil (to_k0 (fun _ _ h => h) (hK3 _ _ _ _ _ ?_))
  clear hK3
  refine wp_seq' fun K4 hK4 => ?_
  refine wp_reg ?_
  refine ol_r (r_move rfl) rfl ?_
  refine ol_r (r_not rfl) rfl ?_
  refine ol_nil (to_k0 (fun _ _ h => h) (hK4 _ _ _ _ _ ?_))
  clear hK4
  first | refine wp_condD rfl (fun hc17 => ?_) (fun hc17 => ?_) | refine wp_condN rfl (fun hc17 => ?_) (fun hc17 => ?_) | refine wp_condNB rfl (fun hc17 => ?_) (fun hc17 => ?_) | refine wp_cond' rfl (fun hc17 => ?_) (fun hc17 => ?_)
  ·refine wp_seq' fun K5 hK5 => ?_
   refine wp_reg ?_
   refine ol_r (r_assign rfl) rfl ?_
   refine ol_nil (to_k0 (fun _ _ h => h) (hK5 _ _ _ _ _ ?_))
   clear hK5
   refine hQ.ret (rvs1 (rv_t rfl)) (fun _ _ h => h) fun w hb hs hB hkd => ?_
   have h0 : (pO D nm).isSome = false := by simpa using hc17
   have h1 : pO D nm = none := by cases h : pO D nm with | none => rfl | some v => rw [h] at h0; cases h0
   rw [(pS_none (kIdx_none.2 (pO_none.1 h1))).2.1]
   exact ⟨by rw [h0]; rfl, hb, hs.sub (subH_same rfl (subH_same rfl (subH_same rfl (subH_tailE fun j x hj => by simp only [List.cons_append, List.nil_append]; (repeat' refine (look_cons_ne _ _ (by omega)).trans ?_); exact look_tailE hj)))), hB, hkd⟩
  ·refine wp_skip' (to_k0 (fun _ _ h => h) (hK2 _ _ _ _ _ ?_))
   clear hK2
   refine wp_seq' fun K6 hK6 => ?_
   refine wp_reg ?_
   refine ol_r (r_move rfl) rfl ?_
   refine ol_r (r_nilS rfl (rfl)) rfl ?_
   refine ol_r (r_fa (o' := 1) rfl fl128_1 rfl) rfl ?_
   refine ol_r (r_ld (id := 301) rfl rfl rfl sc81) rfl ?_
   refine ol_r (r_move rfl) rfl ?_
   refine ol_mapdel (K := Value.string) (V := slV) (z := nilS) (k := nm) (id := 302) rfl rfl rfl mk81 trivial ?_
   refine ol_nil (to_k0 (fun _ _ h => h) (hK6 _ _ _ _ _ ?_))
   clear hK6
   refine wp_seq' fun K7 hK7 => ?_
   refine wp_reg ?_
   refine ol_r (r_assign rfl) rfl ?_
   refine ol_nil (to_k0 (fun _ _ h => h) (hK7 _ _ _ _ _ ?_))
   clear hK7
   refine hQ.ret (rvs1 (rv_t rfl)) (fun _ _ h => h) fun w hb hs hB hkd => ?_
   have h0 : (pO D nm).isSome = true := by simpa using hc17
   exact ⟨by rw [h0]; rfl, hb, hs.sub (subH_same rfl (subH_same rfl (subH_same rfl (subH_tailE fun j x hj => by simp only [List.cons_append, List.nil_append]; (repeat' refine (look_cons_ne _ _ (by omega)).trans ?_); exact look_tailE hj)))), hB, hkd⟩
theorem ref4_Remove (B : Nat) (w : World) (es : List Ent) (xb xm : Nat) (az : Option Addr) (nz cz : Nat) (zs : List Int) (an : Option Addr) (nn cn : Nat) (names : List ByteArray) (D : DM) (nm : ByteArray) (hB0 : B ≤ w.heap.size) (hnm : names = ordBA (pKeys D)) (hnd : (pKeys D).Nodup) (hln : D.length ≤ 5000) (hs0 : Sat B w (own2 xb xm az nz cz zs an nn cn names D ++ tailE 1500 es)) :
    Calls Try.prog 59 #[.pointer (some ⟨xb, 0, none⟩), .string nm] w fun e w' => e = .returned (.int .i64 (if (pO D nm).isSome = true then 0 else 4)) ∧ Below B w w' ∧ (∃ an' nn' cn', Sat B w' (own2 xb xm az nz cz zs an' nn' cn' (ordBA (pKeys (pD D nm))) (pD D nm) ++ tailE 1500 es)) ∧ B ≤ w'.heap.size ∧ Kd (fun _ => True) w w' := by
  have hr0 : Rd encStr w.heap.size w an nn cn names := Sat.rd hs0 (E := encStr) (id := 404) rfl rfl
  have hnl := hr0.len
  have hpl : names.length = D.length := by rw [hnm, (ordBA_perm hnd).length_eq, pKeys, List.length_map]
  refine enterQ (N := 47) (C := fun _ => True) (H := own2 xb xm az nz cz zs an nn cn names D ++ tailE 1500 es) (B := B) (args := [_, _]) Try.func59 rfl rfl rfl (hB0) (hs0) fun Q hQ => ?_
  refine wp_seq' fun K1 hK1 => ?_
  refine wp_reg ?_
  refine ol_r (r_assign rfl) rfl ?_
  refine ol_nil (to_k0 (fun _ _ h => h) (hK1 _ _ _ _ _ ?_))
  clear hK1
  refine wp_seq' fun K2 hK2 => ?_
  refine wp_seq' fun K3 hK3 => ?_
  refine wp_reg ?_
  refine ol_r (r_move rfl) rfl ?_
  refine ol_r (r_nilS rfl (rfl)) rfl ?_
  refine ol_r (r_fa (o' := 2) rfl fl130_2 rfl) rfl ?_
  refine ol_r (r_ld (id := 401) rfl rfl rfl sc81) rfl ?_
  refine ol_r (r_move rfl) rfl ?_
  refine ol_r (r_look2 (K := Value.string) (V := slV) (z := nilS) (k := nm) (id := 402) rfl rfl rfl mk81) rfl ?_
  refine ol_r (r_move rfl) rfl ?_
  refine ol_r (r_extract rfl rfl) rfl ?_
  refine ol_r (r_extract rfl rfl) rfl ?_
  refine ol_r (r_assign rfl) rfl ?_
  refine ol_r (r_assign rfl) rfl ?_
  refine ol_nil (to_k0 (fun _ _ h => h) (hK3 _ _ _ _ _ ?_))
  clear hK3
  refine wp_seq' fun K4 hK4 => ?_
  refine wp_reg ?_
  refine ol_r (r_move rfl) rfl ?_
  refine ol_r (r_not rfl) rfl ?_
  refine ol_nil (to_k0 (fun _ _ h => h) (hK4 _ _ _ _ _ ?_))
  clear hK4
  first | refine wp_condD rfl (fun hc20 => ?_) (fun hc20 => ?_) | refine wp_condN rfl (fun hc20 => ?_) (fun hc20 => ?_) | refine wp_condNB rfl (fun hc20 => ?_) (fun hc20 => ?_) | refine wp_cond' rfl (fun hc20 => ?_) (fun hc20 => ?_)
  ·refine wp_seq' fun K5 hK5 => ?_
   refine wp_reg ?_
   refine ol_r (r_assign rfl) rfl ?_
   refine ol_nil (to_k0 (fun _ _ h => h) (hK5 _ _ _ _ _ ?_))
   clear hK5
   refine hQ.ret (rvs1 (rv_t rfl)) (fun _ _ h => h) fun w hb hs hB hkd => ?_
   have h0 : (pO D nm).isSome = false := by simpa using hc20
   have h1 : pO D nm = none := by cases h : pO D nm with | none => rfl | some v => rw [h] at h0; cases h0
   rw [(pS_none (kIdx_none.2 (pO_none.1 h1))).2.1, ← hnm]
   exact ⟨by rw [h0]; rfl, hb, ⟨_, _, _, hs.sub (subH_same rfl (subH_same rfl (subH_same rfl (subH_same rfl (subH_tailE fun j x hj => by simp only [List.cons_append, List.nil_append]; (repeat' refine (look_cons_ne _ _ (by omega)).trans ?_); exact look_tailE hj)))))⟩, hB, hkd⟩
  ·refine wp_skip' (to_k0 (fun _ _ h => h) (hK2 _ _ _ _ _ ?_))
   clear hK2
   refine wp_seq' fun K6 hK6 => ?_
   refine wp_reg ?_
   refine ol_r (r_move rfl) rfl ?_
   refine ol_r (r_nilS rfl (rfl)) rfl ?_
   refine ol_r (r_fa (o' := 2) rfl fl130_2 rfl) rfl ?_
   refine ol_r (r_ld (id := 401) rfl rfl rfl sc81) rfl ?_
   refine ol_r (r_move rfl) rfl ?_
   refine ol_mapdel (K := Value.string) (V := slV) (z := nilS) (k := nm) (id := 402) rfl rfl rfl mk81 trivial ?_
   refine ol_nil (to_k0 (fun _ _ h => h) (hK6 _ _ _ _ _ ?_))
   clear hK6
   refine wp_seq' fun K7 hK7 => ?_
   refine wp_reg ?_
   refine ol_nilrow 7 9 1 ?_
   refine ol_r (r_assign rfl) rfl ?_
   refine ol_nil (to_k0 (fun _ _ h => h) (hK7 _ _ _ _ _ ?_))
   clear hK7
   refine wp_seq' fun K8 hK8 => ?_
   refine wp_seq' fun K9 hK9 => ?_
   refine wp_reg ?_
   refine ol_r (r_move rfl) rfl ?_
   refine ol_r (r_nilS rfl (rfl)) rfl ?_
   refine ol_r (r_fa (o' := 1) rfl fl130_1 rfl) rfl ?_
   refine ol_r (r_ld (id := 401) rfl rfl rfl sc49) rfl ?_
   refine ol_r (r_len rfl sl49) rfl ?_
   refine ol_r (r_move rfl) rfl ?_
   refine ol_nil (to_k0 (fun _ _ h => h) (hK9 _ _ _ _ _ ?_))
   clear hK9
   refine wp_block' ?_
   apply wp_loopT (σ := Nat × Option Addr × Nat × Nat) (fun s => s.1 ≤ nn ∧ s.2.2.1 = ((names.take s.1).filter (fun y => !sEq y nm)).length) (fun s => [(31, .int .i64 s.1), (7, .slice s.2.1 s.2.2.1 s.2.2.2)]) [(0, _), (1, _), (4, _), (29, _), (30, _)] (fun s => [(401, .blk xb [(0, .slice az nz cz), (1, .slice an nn cn), (2, .map (some xm))] 130), (402, .ob xm (MapO (pEnc Value.string slV (pD D nm)))), (403, .row az nz cz (encI.enc zs) 3 1), (404, .row an nn cn (encStr.enc names) 9 1), (7, .row s.2.1 s.2.2.1 s.2.2.2 (encStr.enc ((names.take s.1).filter (fun y => !sEq y nm))) 9 1)]) [] (fun s => tailE 1500 es) (fun s => nn - s.1) ((0, none, 0, 0))
   ·try dsimp only
    exact ⟨Nat.zero_le _, rfl⟩
   ·exact (sub_cons rfl (sub_cons rfl sub_nil))
   ·exact (sub_cons rfl (sub_cons rfl (sub_cons rfl (sub_cons rfl (sub_cons rfl sub_nil)))))
   ·exact (subH_blk rfl (sub_cons rfl (sub_cons rfl (sub_cons rfl sub_nil))) (subH_same rfl (subH_row rfl (by first | (dsimp only; rfl; done) | (rfl; done) | (dsimp only; done)) (subH_row rfl (by first | (dsimp only; rfl; done) | (rfl; done) | (dsimp only; done)) (subH_row rfl (by first | (dsimp only; rfl; done) | (rfl; done) | (dsimp only; done)) subH_nil)))))
   ·exact subH_nil
   ·refine subH_tailE fun j x hj => ?_
    simp only [List.cons_append, List.nil_append]
    repeat' refine (look_cons_ne _ _ (by omega)).trans ?_
    exact look_tailE hj
   ·rintro ⟨k, oa, m, oc⟩ ⟨hk, hm⟩
    dsimp only at hk hm ⊢
    have hmk : m ≤ k := by
      have h1 := List.length_filter_le (fun y => !sEq y nm) (names.take k)
      rw [List.length_take] at h1; omega
    intro K10 hK10
    refine wp_seq' fun K11 hK11 => ?_
    refine wp_reg ?_
    refine ol_r (r_lss rfl rfl) rfl ?_
    refine ol_nil (to_k0 (fun _ _ h => h) (hK11 _ _ _ _ _ ?_))
    clear hK11
    refine wp_seq' fun K12 hK12 => ?_
    first | refine wp_condD rfl (fun hc32 => ?_) (fun hc32 => ?_) | refine wp_condN rfl (fun hc32 => ?_) (fun hc32 => ?_) | refine wp_condNB rfl (fun hc32 => ?_) (fun hc32 => ?_) | refine wp_cond' rfl (fun hc32 => ?_) (fun hc32 => ?_)
    ·refine wp_skip' (to_k0 (fun _ _ h => h) (hK12 _ _ _ _ _ ?_))
     clear hK12
     refine wp_seq' fun K13 hK13 => ?_
     refine wp_block' ?_
     refine wp_seq' fun K14 hK14 => ?_
     refine wp_reg ?_
     refine ol_ixo (id := 404) encStr _ rfl rfl rfl rfl sl49 (by omega) rfl fun x33 hx33 => ?_
     try simp only [Int.toNat_natCast] at hx33
     try simp only [Int.toNat_natCast] at hx33
     refine ol_r (r_ldw rfl (fun w1 hb1 hs1 hB1 => ld_own (id := 404) hs1 rfl rfl ty9 hx33)) rfl ?_
     refine ol_r (r_assign rfl) rfl ?_
     refine ol_nil (to_k0 (fun _ _ h => h) (hK14 _ _ _ _ _ ?_))
     clear hK14
     refine wp_seq' fun K15 hK15 => ?_
     refine wp_reg ?_
     refine ol_r (r_move rfl) rfl ?_
     refine ol_r (r_move rfl) rfl ?_
     refine ol_r (r_sneq rfl rfl) rfl ?_
     refine ol_nil (to_k0 (fun _ _ h => h) (hK15 _ _ _ _ _ ?_))
     clear hK15
     first | refine wp_condD rfl (fun hc37 => ?_) (fun hc37 => ?_) | refine wp_condN rfl (fun hc37 => ?_) (fun hc37 => ?_) | refine wp_condNB rfl (fun hc37 => ?_) (fun hc37 => ?_) | refine wp_cond' rfl (fun hc37 => ?_) (fun hc37 => ?_)
     ·refine wp_reg ?_
      refine ol_r (r_move rfl) rfl ?_
      refine ol_r (r_move rfl) rfl ?_
      refine ol_bs1 40 rfl rfl rw49 rfl rfl rfl fun a40 => ?_
      refine ol_append1 (id := 7) (id2 := 40) rfl rfl rfl rfl rfl rw49 (by omega) rfl fun a41 c41 => ?_
      refine ol_r (r_assign rfl) rfl ?_
      refine ol_nil (to_k0 (fun _ _ h => h) (hK13 _ _ _ _ _ ?_))
      clear hK13
      refine wp_reg ?_
      refine ol_r (r_add rfl rfl (by omega)) rfl ?_
      refine ol_r (r_move rfl) rfl ?_
      refine ol_nil (to_k0 (fun _ _ h => h) (hK10 ((k + 1, _, _, _)) _ _ ?_ ?_ (sub_cons rfl (sub_cons rfl sub_nil)) (sub_cons rfl (sub_cons rfl (sub_cons rfl (sub_cons rfl (sub_cons rfl sub_nil))))) (by exact (subH_blk rfl (sub_cons rfl (sub_cons rfl (sub_cons rfl sub_nil))) (subH_same rfl (subH_row rfl (by first | (dsimp only; first | (rw [take_succ_get hx33, List.filter_append, Enc.enc_append]; simp only [List.filter_cons, hc37, if_true, List.filter_nil]; rfl) | (rw [take_succ_get hx33, List.filter_append]; simp [hc37]); done) | (first | (rw [take_succ_get hx33, List.filter_append, Enc.enc_append]; simp only [List.filter_cons, hc37, if_true, List.filter_nil]; rfl) | (rw [take_succ_get hx33, List.filter_append]; simp [hc37]); done) | (dsimp only; done)) (subH_row rfl (by first | (dsimp only; first | (rw [take_succ_get hx33, List.filter_append, Enc.enc_append]; simp only [List.filter_cons, hc37, if_true, List.filter_nil]; rfl) | (rw [take_succ_get hx33, List.filter_append]; simp [hc37]); done) | (first | (rw [take_succ_get hx33, List.filter_append, Enc.enc_append]; simp only [List.filter_cons, hc37, if_true, List.filter_nil]; rfl) | (rw [take_succ_get hx33, List.filter_append]; simp [hc37]); done) | (dsimp only; done)) (subH_row rfl (by first | (dsimp only; first | (rw [take_succ_get hx33, List.filter_append, Enc.enc_append]; simp only [List.filter_cons, hc37, if_true, List.filter_nil]; rfl) | (rw [take_succ_get hx33, List.filter_append]; simp [hc37]); done) | (first | (rw [take_succ_get hx33, List.filter_append, Enc.enc_append]; simp only [List.filter_cons, hc37, if_true, List.filter_nil]; rfl) | (rw [take_succ_get hx33, List.filter_append]; simp [hc37]); done) | (dsimp only; done)) subH_nil)))))) subH_nil ?_))
      ·try dsimp only
       exact ⟨by omega, by rw [take_succ_get hx33, List.filter_append, List.length_append, ← hm]; simp [hc37]⟩
      ·try dsimp only
       omega
      ·try dsimp only
       refine subH_tailE fun j x hj => ?_
       simp only [List.cons_append, List.nil_append]
       repeat' refine (look_cons_ne _ _ (by omega)).trans ?_
       exact look_tailE hj
     ·refine wp_skip' (to_k0 (fun _ _ h => h) (hK13 _ _ _ _ _ ?_))
      clear hK13
      refine wp_reg ?_
      refine ol_r (r_add rfl rfl (by omega)) rfl ?_
      refine ol_r (r_move rfl) rfl ?_
      refine ol_nil (to_k0 (fun _ _ h => h) (hK10 ((k + 1, oa, m, oc)) _ _ ?_ ?_ (sub_cons rfl (sub_cons rfl sub_nil)) (sub_cons rfl (sub_cons rfl (sub_cons rfl (sub_cons rfl (sub_cons rfl sub_nil))))) (by exact (subH_blk rfl (sub_cons rfl (sub_cons rfl (sub_cons rfl sub_nil))) (subH_same rfl (subH_row rfl (by first | (dsimp only; first | (rw [take_succ_get hx33, List.filter_append, Enc.enc_append]; simp only [List.filter_cons, hc37, if_true, List.filter_nil]; rfl) | (rw [take_succ_get hx33, List.filter_append]; simp [hc37]); done) | (first | (rw [take_succ_get hx33, List.filter_append, Enc.enc_append]; simp only [List.filter_cons, hc37, if_true, List.filter_nil]; rfl) | (rw [take_succ_get hx33, List.filter_append]; simp [hc37]); done) | (dsimp only; done)) (subH_row rfl (by first | (dsimp only; first | (rw [take_succ_get hx33, List.filter_append, Enc.enc_append]; simp only [List.filter_cons, hc37, if_true, List.filter_nil]; rfl) | (rw [take_succ_get hx33, List.filter_append]; simp [hc37]); done) | (first | (rw [take_succ_get hx33, List.filter_append, Enc.enc_append]; simp only [List.filter_cons, hc37, if_true, List.filter_nil]; rfl) | (rw [take_succ_get hx33, List.filter_append]; simp [hc37]); done) | (dsimp only; done)) (subH_row rfl (by first | (dsimp only; first | (rw [take_succ_get hx33, List.filter_append, Enc.enc_append]; simp only [List.filter_cons, hc37, if_true, List.filter_nil]; rfl) | (rw [take_succ_get hx33, List.filter_append]; simp [hc37]); done) | (first | (rw [take_succ_get hx33, List.filter_append, Enc.enc_append]; simp only [List.filter_cons, hc37, if_true, List.filter_nil]; rfl) | (rw [take_succ_get hx33, List.filter_append]; simp [hc37]); done) | (dsimp only; done)) subH_nil)))))) subH_nil ?_))
      ·try dsimp only
       exact ⟨by omega, by rw [take_succ_get hx33, List.filter_append, List.length_append, ← hm]; simp [hc37]⟩
      ·try dsimp only
       omega
      ·try dsimp only
       refine subH_tailE fun j x hj => ?_
       simp only [List.cons_append, List.nil_append]
       repeat' refine (look_cons_ne _ _ (by omega)).trans ?_
       exact look_tailE hj
    ·refine wp_exit' (to_k0 (fun _ _ h => h) (hK8 _ _ _ _ _ ?_))
     clear hK8
     refine wp_seq' fun K16 hK16 => ?_
     refine wp_reg ?_
     refine ol_r (r_move rfl) rfl ?_
     refine ol_r (r_move rfl) rfl ?_
     refine ol_r (r_nilS rfl (rfl)) rfl ?_
     refine ol_r (r_fa (o' := 1) rfl fl130_1 rfl) rfl ?_
     refine ol_store (id := 401) rfl rfl rfl rfl sz49 rfl rfl (by first | decide | exact Nat.zero_lt_succ _ | simp) ?_
     refine ol_nil (to_k0 (fun _ _ h => h) (hK16 _ _ _ _ _ ?_))
     clear hK16
     refine wp_seq' fun K17 hK17 => ?_
     refine wp_reg ?_
     refine ol_r (r_assign rfl) rfl ?_
     refine ol_nil (to_k0 (fun _ _ h => h) (hK17 _ _ _ _ _ ?_))
     clear hK17
     refine hQ.ret (rvs1 (rv_t rfl)) (fun _ _ h => h) fun w hb hs hB hkd => ?_
     have h0 : (pO D nm).isSome = true := by simpa using hc20
     have h1 : names.take k = names := List.take_of_length_le (by omega)
     have h2 : (names.take k).filter (fun y => !sEq y nm) = ordBA (pKeys (pD D nm)) := by
       rw [h1, hnm]; exact ord_filter fun y => pKeys_pD hnd
     rw [h2] at hs hm
     subst hm
     have h3 := hs.rekey (i := 7) (j := 404) rfl (by decide)
     exact ⟨by rw [h0]; rfl, hb, ⟨oa, _, oc, h3.sub (subH_blk rfl (sub_cons rfl (sub_cons rfl (sub_cons rfl sub_nil))) (subH_same rfl (subH_same rfl (subH_same rfl (subH_tailE fun j x hj => by simp only [List.cons_append, List.nil_append]; (repeat' refine (look_cons_ne _ _ (by omega)).trans ?_); exact look_tailE hj)))))⟩, hB, hkd⟩
theorem gtr_ltB {x y : ByteArray} (h : (!(sLt x y || sEq x y)) = true) : ltB y x := by
  rw [Bool.not_eq_true', Bool.or_eq_false_iff] at h
  exact ltB_tri x y (fun h2 => by rw [sLt_iff.2 h2] at h; cases h.1) (fun he => by rw [sEq_iff.2 he] at h; cases h.2)
theorem gtr_no {x y : ByteArray} (h : (!(sLt x y || sEq x y)) = false) (hne : x ≠ y) : ltB x y := by
  rw [Bool.not_eq_false', Bool.or_eq_true] at h
  rcases h with h | h
  · exact sLt_iff.1 h
  · exact (hne (sEq_iff.1 h)).elim
theorem up_low {l : List ByteArray} {x y : ByteArray} {k : Nat} (hup : l.Pairwise ltB) (hy : l[k]? = some y) (hyx : ltB y x) : ∀ i z, i < k + 1 → l[i]? = some z → ltB z x := by
  intro i z hi hz
  by_cases hik : i = k
  · subst hik; rw [hy] at hz; cases hz; exact hyx
  · obtain ⟨h1, rfl⟩ := List.getElem?_eq_some_iff.1 hz
    obtain ⟨h2, rfl⟩ := List.getElem?_eq_some_iff.1 hy
    exact ltB_trans (List.pairwise_iff_getElem.1 hup i k h1 h2 (by omega)) hyx
theorem ref4_Add (B : Nat) (w : World) (es : List Ent) (xb xm : Nat) (az : Option Addr) (nz cz : Nat) (zs : List Int) (an : Option Addr) (nn cn : Nat) (names : List ByteArray) (D : DM) (nm : ByteArray) (a : Option Addr) (n c : Nat) (cs : List BestR) (hB0 : B ≤ w.heap.size) (hx : Rd encBest B w a n c cs) (hn : n ≤ 4398046511104) (hq : nm.size ≤ 9223372036854775807)
    (hnm : names = ordBA (pKeys D)) (hnd : (pKeys D).Nodup) (hln : D.length ≤ 5000) (hs0 : Sat B w (own2 xb xm az nz cz zs an nn cn names D ++ tailE 1500 es)) :
    Calls Try.prog 57 #[.pointer (some ⟨xb, 0, none⟩), .string nm, .slice a n c] w fun e w' => e = .returned (.int .i64 (addR (pO D nm).isSome D.length zs nm cs)) ∧ Below B w w' ∧
      (if addR (pO D nm).isSome D.length zs nm cs = 0 then ∃ an' nn' cn' a' c', Sat B w' (own2 xb xm az nz cz zs an' nn' cn' (ordBA (pKeys D ++ [nm])) (Hx.pS D nm (a', cs.length, c')) ++ tailE 1500 (es ++ [rowB a' c' cs])) else Sat B w' (own2 xb xm az nz cz zs an nn cn names D ++ tailE 1500 es)) ∧ B ≤ w'.heap.size ∧ Kd (fun _ => True) w w' := by
  have hxl := hx.len
  subst hxl
  have hr0 : Rd encStr w.heap.size w an nn cn names := Sat.rd hs0 (E := encStr) (id := 404) rfl rfl
  have hnl := hr0.len
  have hnlc : nn ≤ cn := hr0.room.1
  have hpl : names.length = D.length := by rw [hnm, (ordBA_perm hnd).length_eq, pKeys, List.length_map]
  have hup : names.Pairwise ltB := by rw [hnm]; exact ordBA_up _
  refine enterQ (N := 93) (C := fun _ => True) (H := own2 xb xm az nz cz zs an nn cn names D ++ tailE 1500 es) (B := B) (args := [_, _, _]) Try.func57 rfl rfl rfl (hB0) (hs0) fun Q hQ => ?_
  refine wp_seq' fun K1 hK1 => ?_
  refine wp_reg ?_
  refine ol_r (r_assign rfl) rfl ?_
  refine ol_nil (to_k0 (fun _ _ h => h) (hK1 _ _ _ _ _ ?_))
  clear hK1
  refine wp_seq' fun K2 hK2 => ?_
  refine wp_seq' fun K3 hK3 => ?_
  refine wp_reg ?_
  refine ol_r (r_move rfl) rfl ?_
  refine ol_call rfl rfl cb105 rfl (fun w1 hb1 hs1 hB1 => Calls.mono (ref2_IsName nm _ hq) ?_)
  rintro e w2 ⟨rfl, hb2⟩
  refine After.below rfl hb1 hs1 hB1 hb2 ?_
  clear hb2 hB1 hs1 hb1 w2 w1
  refine ol_r (r_not rfl) rfl ?_
  refine ol_nil (to_k0 (fun _ _ h => h) (hK3 _ _ _ _ _ ?_))
  clear hK3
  first | refine wp_condD rfl (fun hc13 => ?_) (fun hc13 => ?_) | refine wp_condN rfl (fun hc13 => ?_) (fun hc13 => ?_) | refine wp_condNB rfl (fun hc13 => ?_) (fun hc13 => ?_) | refine wp_cond' rfl (fun hc13 => ?_) (fun hc13 => ?_)
  ·refine wp_seq' fun K4 hK4 => ?_
   refine wp_reg ?_
   refine ol_r (r_assign rfl) rfl ?_
   refine ol_nil (to_k0 (fun _ _ h => h) (hK4 _ _ _ _ _ ?_))
   clear hK4
   refine hQ.ret (rvs1 (rv_t rfl)) (fun _ _ h => h) fun w hb hs hB hkd => ?_
   have h0 := addR_8 (has := (pO D nm).isSome) (len := D.length) (zs := zs) (cs := cs) (show nameB nm = false by simpa using hc13)
   exact ⟨by rw [h0], hb, by rw [h0, if_neg (by decide)]; exact hs.sub (subH_same rfl (subH_same rfl (subH_same rfl (subH_same rfl (subH_tailE fun j x hj => by simp only [List.cons_append, List.nil_append]; (repeat' refine (look_cons_ne _ _ (by omega)).trans ?_); exact look_tailE hj))))), hB, hkd⟩
  ·refine wp_skip' (to_k0 (fun _ _ h => h) (hK2 _ _ _ _ _ ?_))
   clear hK2
   refine wp_seq' fun K5 hK5 => ?_
   refine wp_seq' fun K6 hK6 => ?_
   refine wp_reg ?_
   refine ol_r (r_move rfl) rfl ?_
   refine ol_call rfl rfl cb53 rfl (fun w1 hb1 hs1 hB1 => Calls.mono (ref4_CheckCurve _ _ _ cs _ (hx.at hb1 hB1) hn) ?_)
   rintro e w2 ⟨rfl, hb2⟩
   refine After.below rfl hb1 hs1 hB1 hb2 ?_
   clear hb2 hB1 hs1 hb1 w2 w1
   refine ol_r (r_assign rfl) rfl ?_
   refine ol_nil (to_k0 (fun _ _ h => h) (hK6 _ _ _ _ _ ?_))
   clear hK6
   refine wp_seq' fun K7 hK7 => ?_
   refine wp_reg ?_
   refine ol_r (r_move rfl) rfl ?_
   refine ol_r (r_neq rfl rfl) rfl ?_
   refine ol_nil (to_k0 (fun _ _ h => h) (hK7 _ _ _ _ _ ?_))
   clear hK7
   first | refine wp_condD rfl (fun hc17 => ?_) (fun hc17 => ?_) | refine wp_condN rfl (fun hc17 => ?_) (fun hc17 => ?_) | refine wp_condNB rfl (fun hc17 => ?_) (fun hc17 => ?_) | refine wp_cond' rfl (fun hc17 => ?_) (fun hc17 => ?_)
   ·refine wp_seq' fun K8 hK8 => ?_
    refine wp_reg ?_
    refine ol_r (r_move rfl) rfl ?_
    refine ol_r (r_assign rfl) rfl ?_
    refine ol_nil (to_k0 (fun _ _ h => h) (hK8 _ _ _ _ _ ?_))
    clear hK8
    refine hQ.ret (rvs1 (rv_t rfl)) (fun _ _ h => h) fun w hb hs hB hkd => ?_
    have h0 := addR_c (has := (pO D nm).isSome) (len := D.length) (zs := zs) (cs := cs) (show nameB nm = true by simpa using hc13) hc17
    exact ⟨by rw [h0], hb, by rw [h0, if_neg hc17]; exact hs.sub (subH_same rfl (subH_same rfl (subH_same rfl (subH_same rfl (subH_tailE fun j x hj => by simp only [List.cons_append, List.nil_append]; (repeat' refine (look_cons_ne _ _ (by omega)).trans ?_); exact look_tailE hj))))), hB, hkd⟩
   ·refine wp_skip' (to_k0 (fun _ _ h => h) (hK5 _ _ _ _ _ ?_))
    clear hK5
    refine wp_seq' fun K9 hK9 => ?_
    refine wp_seq' fun K10 hK10 => ?_
    refine wp_rega [(999, [(401, _), (402, _), (403, _), (404, _)])] (by kernel_rfl) ⟨.inr (subH_same rfl (subH_same rfl (subH_same rfl (subH_same rfl subH_nil)))), trivial⟩ ?_
    refine aq_r 0 999 rfl (by kernel_rfl) (by kernel_rfl) (by kernel_rfl) (.head _) (by kernel_rfl) (by kernel_rfl) rfl (r_move rfl) ?_
    refine aq_r 2 999 rfl (by kernel_rfl) (by kernel_rfl) (by kernel_rfl) (.head _) (by kernel_rfl) (by kernel_rfl) rfl (r_move rfl) ?_
    refine aq_r 3 999 rfl (by kernel_rfl) (by kernel_rfl) (by kernel_rfl) (.head _) (by kernel_rfl) (by kernel_rfl) rfl (r_nilS rfl (rfl)) ?_
    refine aq_r 4 999 rfl (by kernel_rfl) (by kernel_rfl) (by kernel_rfl) (.head _) (by kernel_rfl) (by kernel_rfl) rfl (r_fa (o' := 0) rfl fl130_0 rfl) ?_
    refine aq_r 5 999 rfl (by kernel_rfl) (by kernel_rfl) (by kernel_rfl) (.head _) (by kernel_rfl) (by kernel_rfl) rfl (r_ld (id := 401) rfl rfl rfl sc22) ?_
    refine aq_one (i := 1) (by kernel_rfl) rfl fun K11 hK11 => ?_
    refine ol_call rfl rfl cb101 rfl (fun w1 hb1 hs1 hB1 => Calls.mono (ref4_sizesOf _ _ _ cs _ (hx.at hb1 hB1) hn) ?_)
    rintro e w2 ⟨a20, n20, c20, rfl, hf20⟩
    refine After.fresh (id := 20) rfl hb1 hs1 hB1 hf20 ?_
    have hl20 := hf20.len; clear hf20 hB1 hs1 hb1 w2 w1
    refine ol_nil (to_k0 (fun _ _ h => h) (hK11 _ _ ⟨.inr (by repeat' first | exact subH_nil | refine subH_same rfl ?_ | (refine subH_blk rfl (by repeat' first | exact sub_nil | refine sub_cons rfl ?_) ?_)), trivial⟩ ?_))
    clear hK11
    refine aq_one (i := 6) (by kernel_rfl) rfl fun K12 hK12 => ?_
    refine ol_call rfl rfl cb106 rfl (fun w1 hb1 hs1 hB1 => Calls.mono (same_int _ _ _ _ _ _ (szs cs) zs _ (Sat.rd hs1 (E := encI) (id := 20) rfl rfl) (Sat.rd hs1 (E := encI) (id := 403) rfl rfl)) ?_)
    rintro e w2 ⟨rfl, hb2⟩
    refine After.below rfl hb1 hs1 hB1 hb2 ?_
    clear hb2 hB1 hs1 hb1 w2 w1
    refine ol_nil (to_k0 (fun _ _ h => h) (hK12 _ _ ⟨.inr (by repeat' first | exact subH_nil | refine subH_same rfl ?_ | (refine subH_blk rfl (by repeat' first | exact sub_nil | refine sub_cons rfl ?_) ?_)), trivial⟩ ?_))
    clear hK12
    refine aq_r 7 999 rfl (by kernel_rfl) (by kernel_rfl) (by kernel_rfl) (.head _) (by kernel_rfl) (by kernel_rfl) rfl (r_not rfl) ?_
    refine aq_done (by kernel_rfl) ?_
    refine (to_k0 (fun _ _ h => h) (hK10 _ _ _ _ _ ?_))
    clear hK10
    first | refine wp_condD rfl (fun hc26 => ?_) (fun hc26 => ?_) | refine wp_condN rfl (fun hc26 => ?_) (fun hc26 => ?_) | refine wp_condNB rfl (fun hc26 => ?_) (fun hc26 => ?_) | refine wp_cond' rfl (fun hc26 => ?_) (fun hc26 => ?_)
    ·refine wp_seq' fun K13 hK13 => ?_
     refine wp_reg ?_
     refine ol_r (r_assign rfl) rfl ?_
     refine ol_nil (to_k0 (fun _ _ h => h) (hK13 _ _ _ _ _ ?_))
     clear hK13
     refine hQ.ret (rvs1 (rv_t rfl)) (fun _ _ h => h) fun w hb hs hB hkd => ?_
     have h0 := addR_2 (has := (pO D nm).isSome) (len := D.length) (zs := zs) (cs := cs) (show nameB nm = true by simpa using hc13) hc17 (by simpa using hc26)
     exact ⟨by rw [h0], hb, by rw [h0, if_neg (by decide)]; exact hs.sub (subH_same rfl (subH_same rfl (subH_same rfl (subH_same rfl (subH_tailE fun j x hj => by simp only [List.cons_append, List.nil_append]; (repeat' refine (look_cons_ne _ _ (by omega)).trans ?_); exact look_tailE hj))))), hB, hkd⟩
    ·refine wp_skip' (to_k0 (fun _ _ h => h) (hK9 _ _ _ _ _ ?_))
     clear hK9
     refine wp_seq' fun K14 hK14 => ?_
     refine wp_seq' fun K15 hK15 => ?_
     refine wp_reg ?_
     refine ol_r (r_move rfl) rfl ?_
     refine ol_r (r_nilS rfl (rfl)) rfl ?_
     refine ol_r (r_fa (o' := 2) rfl fl130_2 rfl) rfl ?_
     refine ol_r (r_ld (id := 401) rfl rfl rfl sc81) rfl ?_
     refine ol_r (r_move rfl) rfl ?_
     refine ol_r (r_look2 (K := Value.string) (V := slV) (z := nilS) (k := nm) (id := 402) rfl rfl rfl mk81) rfl ?_
     refine ol_r (r_move rfl) rfl ?_
     refine ol_r (r_extract rfl rfl) rfl ?_
     refine ol_r (r_extract rfl rfl) rfl ?_
     refine ol_r (r_assign rfl) rfl ?_
     refine ol_r (r_assign rfl) rfl ?_
     refine ol_nil (to_k0 (fun _ _ h => h) (hK15 _ _ _ _ _ ?_))
     clear hK15
     refine wp_seq' fun K16 hK16 => ?_
     refine wp_reg ?_
     refine ol_r (r_move rfl) rfl ?_
     refine ol_nil (to_k0 (fun _ _ h => h) (hK16 _ _ _ _ _ ?_))
     clear hK16
     first | refine wp_condD rfl (fun hc36 => ?_) (fun hc36 => ?_) | refine wp_condN rfl (fun hc36 => ?_) (fun hc36 => ?_) | refine wp_condNB rfl (fun hc36 => ?_) (fun hc36 => ?_) | refine wp_cond' rfl (fun hc36 => ?_) (fun hc36 => ?_)
     ·refine wp_seq' fun K17 hK17 => ?_
      refine wp_reg ?_
      refine ol_r (r_assign rfl) rfl ?_
      refine ol_nil (to_k0 (fun _ _ h => h) (hK17 _ _ _ _ _ ?_))
      clear hK17
      refine hQ.ret (rvs1 (rv_t rfl)) (fun _ _ h => h) fun w hb hs hB hkd => ?_
      have h0 := addR_5 (has := (pO D nm).isSome) (len := D.length) (zs := zs) (cs := cs) (show nameB nm = true by simpa using hc13) hc17 (by simpa using hc26) (by simpa using hc36)
      exact ⟨by rw [h0], hb, by rw [h0, if_neg (by decide)]; exact hs.sub (subH_same rfl (subH_same rfl (subH_same rfl (subH_same rfl (subH_tailE fun j x hj => by simp only [List.cons_append, List.nil_append]; (repeat' refine (look_cons_ne _ _ (by omega)).trans ?_); exact look_tailE hj))))), hB, hkd⟩
     ·refine wp_skip' (to_k0 (fun _ _ h => h) (hK14 _ _ _ _ _ ?_))
      clear hK14
      refine wp_seq' fun K18 hK18 => ?_
      refine wp_seq' fun K19 hK19 => ?_
      refine wp_reg ?_
      refine ol_r (r_move rfl) rfl ?_
      refine ol_r (r_nilS rfl (rfl)) rfl ?_
      refine ol_r (r_fa (o' := 1) rfl fl130_1 rfl) rfl ?_
      refine ol_r (r_ld (id := 401) rfl rfl rfl sc49) rfl ?_
      refine ol_r (r_len rfl sl49) rfl ?_
      refine ol_r (r_geq rfl rfl) rfl ?_
      refine ol_nil (to_k0 (fun _ _ h => h) (hK19 _ _ _ _ _ ?_))
      clear hK19
      first | refine wp_condD rfl (fun hc42 => ?_) (fun hc42 => ?_) | refine wp_condN rfl (fun hc42 => ?_) (fun hc42 => ?_) | refine wp_condNB rfl (fun hc42 => ?_) (fun hc42 => ?_) | refine wp_cond' rfl (fun hc42 => ?_) (fun hc42 => ?_)
      ·refine wp_seq' fun K20 hK20 => ?_
       refine wp_reg ?_
       refine ol_r (r_assign rfl) rfl ?_
       refine ol_nil (to_k0 (fun _ _ h => h) (hK20 _ _ _ _ _ ?_))
       clear hK20
       refine hQ.ret (rvs1 (rv_t rfl)) (fun _ _ h => h) fun w hb hs hB hkd => ?_
       have h0 := addR_3 (has := (pO D nm).isSome) (len := D.length) (zs := zs) (cs := cs) (show nameB nm = true by simpa using hc13) hc17 (by simpa using hc26) (by simpa using hc36) (by omega)
       exact ⟨by rw [h0], hb, by rw [h0, if_neg (by decide)]; exact hs.sub (subH_same rfl (subH_same rfl (subH_same rfl (subH_same rfl (subH_tailE fun j x hj => by simp only [List.cons_append, List.nil_append]; (repeat' refine (look_cons_ne _ _ (by omega)).trans ?_); exact look_tailE hj))))), hB, hkd⟩
      ·refine wp_skip' (to_k0 (fun _ _ h => h) (hK18 _ _ _ _ _ ?_))
       clear hK18
       refine wp_seq' fun K21 hK21 => ?_
       refine wp_reg ?_
       refine ol_r (r_move rfl) rfl ?_
       refine ol_r (r_nilS rfl (rfl)) rfl ?_
       refine ol_r (r_fa (o' := 1) rfl fl130_1 rfl) rfl ?_
       refine ol_r (r_ld (id := 401) rfl rfl rfl sc49) rfl ?_
       refine ol_r (r_len rfl sl49) rfl ?_
       refine ol_r (r_assign rfl) rfl ?_
       refine ol_nil (to_k0 (fun _ _ h => h) (hK21 _ _ _ _ _ ?_))
       clear hK21
       refine wp_seq' fun K22 hK22 => ?_
       refine wp_block' ?_
       apply wp_loopT (σ := Nat) (fun s => s ≤ nn ∧ ∀ i y, s ≤ i → names[i]? = some y → ltB nm y) (fun s => [(10, .int .i64 s)]) [(0, _), (1, _), (2, _), (6, _)] (fun s => []) [(20, _), (401, _), (402, _), (403, _), (404, _)] (fun s => tailE 1500 es) (fun s => s) (nn)
       ·try dsimp only
        exact ⟨Nat.le_refl _, fun i y hi hy => by have := (List.getElem?_eq_some_iff.1 hy).1; omega⟩
       ·exact (sub_cons rfl sub_nil)
       ·exact (sub_cons rfl (sub_cons rfl (sub_cons rfl (sub_cons rfl sub_nil))))
       ·exact subH_nil
       ·exact (subH_same rfl (subH_same rfl (subH_same rfl (subH_same rfl (subH_same rfl subH_nil)))))
       ·refine subH_tailE fun j x hj => ?_
        simp only [List.cons_append, List.nil_append]
        repeat' refine (look_cons_ne _ _ (by omega)).trans ?_
        exact look_tailE hj
       ·rintro k ⟨hk, hP⟩
        intro K23 hK23
        refine wp_seq' fun K24 hK24 => ?_
        refine wp_seq' fun K25 hK25 => ?_
        refine wp_reg ?_
        refine ol_r (r_move rfl) rfl ?_
        refine ol_r (r_gtr rfl rfl) rfl ?_
        refine ol_r (r_move rfl) rfl ?_
        refine ol_split (d := 50) rfl (fun hs50 => ?_) (fun hs50 => ?_)
        ·have phs50 := hs50; try simp only [decide_eq_true_eq, decide_eq_false_iff_not, Bool.not_eq_true', Bool.not_eq_false', Bool.not_true, Bool.not_false] at phs50
         refine ol_g rfl rfl hs50 ?_
         refine ol_r (r_move rfl) rfl ?_
         refine ol_g rfl rfl hs50 ?_
         refine ol_r (r_nilS rfl (rfl)) rfl ?_
         refine ol_g rfl rfl hs50 ?_
         refine ol_r (r_fa (o' := 1) rfl fl130_1 rfl) rfl ?_
         refine ol_g rfl rfl hs50 ?_
         refine ol_r (r_ld (id := 401) rfl rfl rfl sc49) rfl ?_
         refine ol_g rfl rfl hs50 ?_
         refine ol_r (r_move rfl) rfl ?_
         refine ol_g rfl rfl hs50 ?_
         refine ol_r (r_sub rfl rfl (by omega)) rfl ?_
         refine ol_g rfl rfl hs50 ?_
         refine ol_ixo (id := 404) encStr _ rfl rfl rfl rfl sl49 (by omega) rfl fun x57 hx57 => ?_
         try simp only [Int.toNat_natCast] at hx57
         try simp only [Int.toNat_natCast] at hx57
         refine ol_g rfl rfl hs50 ?_
         refine ol_r (r_ldw rfl (fun w1 hb1 hs1 hB1 => ld_own (id := 404) hs1 rfl rfl ty9 hx57)) rfl ?_
         refine ol_g rfl rfl hs50 ?_
         refine ol_r (r_move rfl) rfl ?_
         refine ol_g rfl rfl hs50 ?_
         refine ol_r (r_sgtr rfl rfl) rfl ?_
         refine ol_r (r_pickT rfl hs50 rfl) rfl ?_
         refine ol_nil (to_k0 (fun _ _ h => h) (hK25 _ _ _ _ _ ?_))
         clear hK25
         first | refine wp_condD rfl (fun hc61 => ?_) (fun hc61 => ?_) | refine wp_condN rfl (fun hc61 => ?_) (fun hc61 => ?_) | refine wp_condNB rfl (fun hc61 => ?_) (fun hc61 => ?_) | refine wp_cond' rfl (fun hc61 => ?_) (fun hc61 => ?_)
         ·refine wp_skip' (to_k0 (fun _ _ h => h) (hK24 _ _ _ _ _ ?_))
          clear hK24
          refine wp_block' ?_
          refine wp_reg ?_
          refine ol_r (r_move rfl) rfl ?_
          refine ol_r (r_sub rfl rfl (by omega)) rfl ?_
          refine ol_r (r_assign rfl) rfl ?_
          refine ol_nil (to_k0 (fun _ _ h => h) (hK23 (k - 1) _ _ ?_ ?_ (sub_cons (by first | rfl | (first | rfl | (rw [show ((k - 1 : Nat) : Int) = (k : Int) - 1 by omega]; rfl))) sub_nil) (sub_cons rfl (sub_cons rfl (sub_cons rfl (sub_cons rfl sub_nil)))) (by exact subH_nil) (subH_same rfl (subH_same rfl (subH_same rfl (subH_same rfl (subH_same rfl subH_nil))))) ?_))
          ·try dsimp only
           refine ⟨by omega, fun i y hi hy => ?_⟩
           by_cases hik : k ≤ i
           · exact hP i y hik hy
           · obtain rfl : i = ((k : Int) - 1).toNat := by omega
             rw [hx57] at hy
             cases hy
             exact gtr_ltB (by rw [hc61]; rfl)
          ·try dsimp only
           omega
          ·try dsimp only
           refine subH_tailE fun j x hj => ?_
           simp only [List.cons_append, List.nil_append]
           repeat' refine (look_cons_ne _ _ (by omega)).trans ?_
           exact look_tailE hj
         ·refine wp_exit' (to_k0 (fun _ _ h => h) (hK22 _ _ _ _ _ ?_))
          clear hK22
          refine wp_seq' fun K26 hK26 => ?_
          refine wp_rega [(999, [(20, _), (402, _), (403, _), (404, _)]), (21, [(401, _)])] (by kernel_rfl) ⟨.inr (subH_same rfl (subH_same rfl (subH_same rfl (subH_same rfl subH_nil)))), ⟨.inr (subH_same rfl subH_nil), trivial⟩⟩ ?_
          obtain ⟨p1, q1, e1, _⟩ := hr0.part (l := 0) (h := k) (by omega) (by omega)
          obtain ⟨p2, q2, e2, _⟩ := hr0.part (l := k) (h := nn) (by omega) (by omega)
          have hno : nm ∉ pKeys D := fun h => by rw [isSome_mem.2 h] at hc36; simp at hc36
          have hlow : ∀ i y, i < k → names[i]? = some y → ltB y nm := by
            rcases Nat.eq_zero_or_pos k with h0 | h0
            · intro i y hi; omega
            · first
                | (exfalso; omega)
                | (intro i y hi hy
                   have hm : x57 ∈ names := List.mem_of_getElem? hx57
                   have hne : x57 ≠ nm := fun he => hno (by rw [hnm, mem_ordBA, he] at hm; exact hm)
                   rw [show ((k : Int) - 1).toNat = k - 1 by omega] at hx57
                   have hz := gtr_no (x := x57) (y := nm) (by rw [hc61]; rfl) hne
                   exact up_low hup hx57 hz i y (by omega) hy)
          have heq : [] ++ (names.drop 0).take (k - 0) ++ [nm] ++ (names.drop k).take (nn - k) = ordBA (pKeys D ++ [nm]) := by
            rw [List.nil_append, List.drop_zero, Nat.sub_zero, List.take_of_length_le (l := names.drop k) (by rw [List.length_drop]; omega)]
            exact ins_ord hnm hno hlow hP fun y => by simp
          have hln2 : 0 + (k - 0) + 1 + (nn - k) = nn + 1 := by omega
          refine aq_r 0 999 rfl (by kernel_rfl) (by kernel_rfl) (by kernel_rfl) (.head _) (by kernel_rfl) (by kernel_rfl) rfl (r_move rfl) ?_
          refine aq_r 2 999 rfl (by kernel_rfl) (by kernel_rfl) (by kernel_rfl) (.head _) (by kernel_rfl) (by kernel_rfl) rfl (r_move rfl) ?_
          refine aq_r 3 999 rfl (by kernel_rfl) (by kernel_rfl) (by kernel_rfl) (.head _) (by kernel_rfl) (by kernel_rfl) rfl (r_nilS rfl (rfl)) ?_
          refine aq_r 4 999 rfl (by kernel_rfl) (by kernel_rfl) (by kernel_rfl) (.head _) (by kernel_rfl) (by kernel_rfl) rfl (r_fa (o' := 1) rfl fl130_1 rfl) ?_
          refine aq_r 5 21 rfl (by kernel_rfl) (by kernel_rfl) (by kernel_rfl) (.tail _ (.head _)) (by kernel_rfl) (by kernel_rfl) rfl (r_ld (id := 401) rfl rfl rfl sc49) ?_
          refine aq_r 6 999 rfl (by kernel_rfl) (by kernel_rfl) (by kernel_rfl) (.head _) (by kernel_rfl) (by kernel_rfl) rfl (r_move rfl) ?_
          refine aq_r 7 999 rfl (by kernel_rfl) (by kernel_rfl) (by kernel_rfl) (.head _) (by kernel_rfl) (by kernel_rfl) rfl (Runs.val e1 (r_sl (l := none) (h := some (k : Int)) rfl rfl rfl sl49 (by simp only [Option.getD_some, Option.getD_none]; omega) (by omega))) ?_
          refine aq_r 9 999 rfl (by kernel_rfl) (by kernel_rfl) (by kernel_rfl) (.head _) (by kernel_rfl) (by kernel_rfl) rfl (r_move rfl) ?_
          refine aq_r 12 999 rfl (by kernel_rfl) (by kernel_rfl) (by kernel_rfl) (.head _) (by kernel_rfl) (by kernel_rfl) rfl (r_move rfl) ?_
          refine aq_r 13 999 rfl (by kernel_rfl) (by kernel_rfl) (by kernel_rfl) (.head _) (by kernel_rfl) (by kernel_rfl) rfl (r_nilS rfl (rfl)) ?_
          refine aq_r 14 999 rfl (by kernel_rfl) (by kernel_rfl) (by kernel_rfl) (.head _) (by kernel_rfl) (by kernel_rfl) rfl (r_fa (o' := 1) rfl fl130_1 rfl) ?_
          refine aq_r 15 21 rfl (by kernel_rfl) (by kernel_rfl) (by kernel_rfl) (.tail _ (.head _)) (by kernel_rfl) (by kernel_rfl) rfl (r_ld (id := 401) rfl rfl rfl sc49) ?_
          refine aq_r 16 999 rfl (by kernel_rfl) (by kernel_rfl) (by kernel_rfl) (.head _) (by kernel_rfl) (by kernel_rfl) rfl (r_move rfl) ?_
          refine aq_r 17 999 rfl (by kernel_rfl) (by kernel_rfl) (by kernel_rfl) (.head _) (by kernel_rfl) (by kernel_rfl) rfl (Runs.val e2 (r_sl (l := some (k : Int)) (h := none) rfl rfl rfl sl49 (by simp only [Option.getD_some, Option.getD_none]; omega) (by omega))) ?_
          refine aq_two (i := 1) (j := 10) (by kernel_rfl) rfl rfl (fun K27 hK27 => ?_) (fun K27 hK27 => ?_)
          ·refine ol_bs0 65 rw49 rfl fun b65 => ?_
           refine ol_nil (to_k0 (fun _ _ h => h) (hK27 _ _ ⟨.inr (by repeat' first | exact subH_nil | refine subH_same rfl ?_ | (refine subH_blk rfl (by repeat' first | exact sub_nil | refine sub_cons rfl ?_) ?_)), ⟨.inr (by repeat' first | exact subH_nil | refine subH_same rfl ?_ | (refine subH_blk rfl (by repeat' first | exact sub_nil | refine sub_cons rfl ?_) ?_)), trivial⟩⟩ ?_))
           clear hK27
           refine aq_two (i := 8) (j := 10) (by kernel_rfl) rfl rfl (fun K28 hK28 => ?_) (fun K28 hK28 => ?_)
           ·refine ol_appendRW (id := 65) (xs := []) encStr (fun w1 hb1 hs1 hB1 => (Sat.rd hs1 (E := encStr) (id := 404) rfl rfl).partAt e1 (by omega) (by omega)) rfl rfl rfl rfl rw49 (by omega) rfl fun a72 c72 => ?_
            refine ol_nil (to_k0 (fun _ _ h => h) (hK28 _ _ ⟨.inr (by repeat' first | exact subH_nil | refine subH_same rfl ?_ | (refine subH_blk rfl (by repeat' first | exact sub_nil | refine sub_cons rfl ?_) ?_)), ⟨.inr (by repeat' first | exact subH_nil | refine subH_same rfl ?_ | (refine subH_blk rfl (by repeat' first | exact sub_nil | refine sub_cons rfl ?_) ?_)), trivial⟩⟩ ?_))
            clear hK28
            refine aq_one (i := 10) (by kernel_rfl) rfl fun K29 hK29 => ?_
            refine ol_bs1 74 rfl rfl rw49 rfl rfl rfl fun a74 => ?_
            refine ol_nil (to_k0 (fun _ _ h => h) (hK29 _ _ ⟨.inr (by repeat' first | exact subH_nil | refine subH_same rfl ?_ | (refine subH_blk rfl (by repeat' first | exact sub_nil | refine sub_cons rfl ?_) ?_)), ⟨.inr (by repeat' first | exact subH_nil | refine subH_same rfl ?_ | (refine subH_blk rfl (by repeat' first | exact sub_nil | refine sub_cons rfl ?_) ?_)), trivial⟩⟩ ?_))
            clear hK29
            refine aq_one (i := 11) (by kernel_rfl) rfl fun K30 hK30 => ?_
            refine ol_append1 (id := 65) (id2 := 74) rfl rfl rfl rfl rfl rw49 (by omega) rfl fun a75 c75 => ?_
            refine ol_nil (to_k0 (fun _ _ h => h) (hK30 _ _ ⟨.inr (by repeat' first | exact subH_nil | refine subH_same rfl ?_ | (refine subH_blk rfl (by repeat' first | exact sub_nil | refine sub_cons rfl ?_) ?_)), ⟨.inr (by repeat' first | exact subH_nil | refine subH_same rfl ?_ | (refine subH_blk rfl (by repeat' first | exact sub_nil | refine sub_cons rfl ?_) ?_)), trivial⟩⟩ ?_))
            clear hK30
            refine aq_one (i := 18) (by kernel_rfl) rfl fun K31 hK31 => ?_
            refine ol_appendRW (id := 65) (xs := [] ++ (names.drop 0).take (k - 0) ++ [nm]) encStr (fun w1 hb1 hs1 hB1 => (Sat.rd hs1 (E := encStr) (id := 404) rfl rfl).partAt e2 (by omega) (by omega)) rfl (by rw [show encStr.enc ([] ++ (names.drop 0).take (k - 0) ++ [nm]) = encStr.enc ([] ++ (names.drop 0).take (k - 0)) ++ [Value.string nm] from Enc.enc_append _ _ _]; rfl) rfl rfl rw49 (by omega) rfl fun a82 c82 => ?_
            refine ol_nil (to_k0 (fun _ _ h => h) (hK31 _ _ ⟨.inr (by repeat' first | exact subH_nil | refine subH_same rfl ?_ | (refine subH_blk rfl (by repeat' first | exact sub_nil | refine sub_cons rfl ?_) ?_)), ⟨.inr (by repeat' first | exact subH_nil | refine subH_same rfl ?_ | (refine subH_blk rfl (by repeat' first | exact sub_nil | refine sub_cons rfl ?_) ?_)), trivial⟩⟩ ?_))
            clear hK31
            refine aq_r 19 999 rfl (by kernel_rfl) (by kernel_rfl) (by kernel_rfl) (.head _) (by kernel_rfl) (by kernel_rfl) rfl (r_nilS rfl (rfl)) ?_
            refine aq_r 20 999 rfl (by kernel_rfl) (by kernel_rfl) (by kernel_rfl) (.head _) (by kernel_rfl) (by kernel_rfl) rfl (r_fa (o' := 1) rfl fl130_1 rfl) ?_
            refine aq_one (i := 21) (by kernel_rfl) rfl fun K32 hK32 => ?_
            refine ol_store (id := 401) rfl rfl rfl rfl sz49 rfl rfl (by first | decide | exact Nat.zero_lt_succ _ | simp) ?_
            refine ol_nil (to_k0 (fun _ _ h => h) (hK32 _ _ ⟨.inr (by repeat' first | exact subH_nil | refine subH_same rfl ?_ | (refine subH_blk rfl (by repeat' first | exact sub_nil | refine sub_cons rfl ?_) ?_)), ⟨.inl (by kernel_rfl), trivial⟩⟩ ?_))
            clear hK32
            refine aq_done (by kernel_rfl) ?_
            refine (to_k0 (fun _ _ h => h) (hK26 _ _ _ _ _ ?_))
            clear hK26
            refine wp_seq' fun K33 hK33 => ?_
            refine wp_rega [(999, [(20, _), (65, _), (74, _), (401, _), (403, _), (404, _)]), (8, [(402, _)])] (by kernel_rfl) ⟨.inr (subH_same rfl (subH_same rfl (subH_same rfl (subH_same rfl (subH_same rfl (subH_same rfl subH_nil)))))), ⟨.inr (subH_same rfl subH_nil), trivial⟩⟩ ?_
            refine aq_r 0 999 rfl (by kernel_rfl) (by kernel_rfl) (by kernel_rfl) (.head _) (by kernel_rfl) (by kernel_rfl) rfl (r_move rfl) ?_
            refine aq_r 1 999 rfl (by kernel_rfl) (by kernel_rfl) (by kernel_rfl) (.head _) (by kernel_rfl) (by kernel_rfl) rfl (r_nilS rfl (rfl)) ?_
            refine aq_r 2 999 rfl (by kernel_rfl) (by kernel_rfl) (by kernel_rfl) (.head _) (by kernel_rfl) (by kernel_rfl) rfl (r_fa (o' := 2) rfl fl130_2 rfl) ?_
            refine aq_r 3 999 rfl (by kernel_rfl) (by kernel_rfl) (by kernel_rfl) (.head _) (by kernel_rfl) (by kernel_rfl) rfl (r_ld (id := 401) rfl rfl rfl sc81) ?_
            refine aq_r 4 999 rfl (by kernel_rfl) (by kernel_rfl) (by kernel_rfl) (.head _) (by kernel_rfl) (by kernel_rfl) rfl (r_move rfl) ?_
            refine aq_r 6 999 rfl (by kernel_rfl) (by kernel_rfl) (by kernel_rfl) (.head _) (by kernel_rfl) (by kernel_rfl) rfl (r_move rfl) ?_
            refine aq_one (i := 5) (by kernel_rfl) rfl fun K34 hK34 => ?_
            refine ol_bs0 90 rw38 rfl fun b90 => ?_
            refine ol_nil (to_k0 (fun _ _ h => h) (hK34 _ _ ⟨.inr (by repeat' first | exact subH_nil | refine subH_same rfl ?_ | (refine subH_blk rfl (by repeat' first | exact sub_nil | refine sub_cons rfl ?_) ?_)), ⟨.inr (by repeat' first | exact subH_nil | refine subH_same rfl ?_ | (refine subH_blk rfl (by repeat' first | exact sub_nil | refine sub_cons rfl ?_) ?_)), trivial⟩⟩ ?_))
            clear hK34
            refine aq_one (i := 7) (by kernel_rfl) rfl fun K35 hK35 => ?_
            refine ol_appendR (id := 90) (xs := []) encBest hx rfl rfl rfl rfl rw38 (by omega) rfl fun a92 c92 => ?_
            refine ol_nil (to_k0 (fun _ _ h => h) (hK35 _ _ ⟨.inr (by repeat' first | exact subH_nil | refine subH_same rfl ?_ | (refine subH_blk rfl (by repeat' first | exact sub_nil | refine sub_cons rfl ?_) ?_)), ⟨.inr (by repeat' first | exact subH_nil | refine subH_same rfl ?_ | (refine subH_blk rfl (by repeat' first | exact sub_nil | refine sub_cons rfl ?_) ?_)), trivial⟩⟩ ?_))
            clear hK35
            refine aq_one (i := 8) (by kernel_rfl) rfl fun K36 hK36 => ?_
            refine ol_mapset (K := Value.string) (V := slV) (z := nilS) (k := nm) (v := (a92, 0 + cs.length, c92)) (id := 402) rfl rfl rfl rfl mk81 trivial ?_
            refine ol_nil (to_k0 (fun _ _ h => h) (hK36 _ _ ⟨.inr (by repeat' first | exact subH_nil | refine subH_same rfl ?_ | (refine subH_blk rfl (by repeat' first | exact sub_nil | refine sub_cons rfl ?_) ?_)), ⟨.inl (by kernel_rfl), trivial⟩⟩ ?_))
            clear hK36
            refine aq_done (by kernel_rfl) ?_
            refine (to_k0 (fun _ _ h => h) (hK33 _ _ _ _ _ ?_))
            clear hK33
            refine wp_seq' fun K37 hK37 => ?_
            refine wp_reg ?_
            refine ol_r (r_assign rfl) rfl ?_
            refine ol_nil (to_k0 (fun _ _ h => h) (hK37 _ _ _ _ _ ?_))
            clear hK37
            refine hQ.ret (rvs1 (rv_t rfl)) (fun _ _ h => h) fun w hb hs hB hkd => ?_
            have h0 := addR_0 (has := (pO D nm).isSome) (len := D.length) (zs := zs) (cs := cs) (show nameB nm = true by simpa using hc13) hc17 (by simpa using hc26) (by simpa using hc36) (by omega)
            refine ⟨by rw [h0], hb, ?_, hB, hkd⟩
            rw [h0, if_pos rfl]
            rw [heq] at hs
            simp only [Nat.zero_add, List.nil_append] at hs
            have h3 := (hs.rekey (i := 65) (j := 404) rfl (by decide)).rekey (i := 90) (j := 1500 + es.length) rfl (by omega)
            refine ⟨a82, k - 0 + 1 + (nn - k), c82, a92, c92, h3.sub ?_⟩
            refine subH_blk ((look_cons_ne _ _ (by omega)).trans rfl) (sub_cons rfl (sub_cons rfl (sub_cons rfl sub_nil))) (subH_same ?_ (subH_same ?_ (subH_same ?_ (subH_snoc (fun j x hj => ?_) (look_cons_eq _ _ _)))))
            · exact (look_cons_ne _ _ (by omega)).trans rfl
            · exact (look_cons_ne _ _ (by omega)).trans rfl
            · exact (look_cons_ne _ _ (by omega)).trans rfl
            · have hjl := (List.getElem?_eq_some_iff.1 hj).1
              simp only [List.cons_append, List.nil_append]
              repeat' refine (look_cons_ne _ _ (by omega)).trans ?_
              exact look_tailE hj
           ·refine ol_bs1 74 rfl rfl rw49 rfl rfl rfl fun a74 => ?_
            refine ol_nil (to_k0 (fun _ _ h => h) (hK28 _ _ ⟨.inr (by repeat' first | exact subH_nil | refine subH_same rfl ?_ | (refine subH_blk rfl (by repeat' first | exact sub_nil | refine sub_cons rfl ?_) ?_)), ⟨.inr (by repeat' first | exact subH_nil | refine subH_same rfl ?_ | (refine subH_blk rfl (by repeat' first | exact sub_nil | refine sub_cons rfl ?_) ?_)), trivial⟩⟩ ?_))
            clear hK28
            refine aq_one (i := 8) (by kernel_rfl) rfl fun K29 hK29 => ?_
            refine ol_appendRW (id := 65) (xs := []) encStr (fun w1 hb1 hs1 hB1 => (Sat.rd hs1 (E := encStr) (id := 404) rfl rfl).partAt e1 (by omega) (by omega)) rfl rfl rfl rfl rw49 (by omega) rfl fun a72 c72 => ?_
            refine ol_nil (to_k0 (fun _ _ h => h) (hK29 _ _ ⟨.inr (by repeat' first | exact subH_nil | refine subH_same rfl ?_ | (refine subH_blk rfl (by repeat' first | exact sub_nil | refine sub_cons rfl ?_) ?_)), ⟨.inr (by repeat' first | exact subH_nil | refine subH_same rfl ?_ | (refine subH_blk rfl (by repeat' first | exact sub_nil | refine sub_cons rfl ?_) ?_)), trivial⟩⟩ ?_))
            clear hK29
            refine aq_one (i := 11) (by kernel_rfl) rfl fun K30 hK30 => ?_
            refine ol_append1 (id := 65) (id2 := 74) rfl rfl rfl rfl rfl rw49 (by omega) rfl fun a75 c75 => ?_
            refine ol_nil (to_k0 (fun _ _ h => h) (hK30 _ _ ⟨.inr (by repeat' first | exact subH_nil | refine subH_same rfl ?_ | (refine subH_blk rfl (by repeat' first | exact sub_nil | refine sub_cons rfl ?_) ?_)), ⟨.inr (by repeat' first | exact subH_nil | refine subH_same rfl ?_ | (refine subH_blk rfl (by repeat' first | exact sub_nil | refine sub_cons rfl ?_) ?_)), trivial⟩⟩ ?_))
            clear hK30
            refine aq_one (i := 18) (by kernel_rfl) rfl fun K31 hK31 => ?_
            refine ol_appendRW (id := 65) (xs := [] ++ (names.drop 0).take (k - 0) ++ [nm]) encStr (fun w1 hb1 hs1 hB1 => (Sat.rd hs1 (E := encStr) (id := 404) rfl rfl).partAt e2 (by omega) (by omega)) rfl (by rw [show encStr.enc ([] ++ (names.drop 0).take (k - 0) ++ [nm]) = encStr.enc ([] ++ (names.drop 0).take (k - 0)) ++ [Value.string nm] from Enc.enc_append _ _ _]; rfl) rfl rfl rw49 (by omega) rfl fun a82 c82 => ?_
            refine ol_nil (to_k0 (fun _ _ h => h) (hK31 _ _ ⟨.inr (by repeat' first | exact subH_nil | refine subH_same rfl ?_ | (refine subH_blk rfl (by repeat' first | exact sub_nil | refine sub_cons rfl ?_) ?_)), ⟨.inr (by repeat' first | exact subH_nil | refine subH_same rfl ?_ | (refine subH_blk rfl (by repeat' first | exact sub_nil | refine sub_cons rfl ?_) ?_)), trivial⟩⟩ ?_))
            clear hK31
            refine aq_r 19 999 rfl (by kernel_rfl) (by kernel_rfl) (by kernel_rfl) (.head _) (by kernel_rfl) (by kernel_rfl) rfl (r_nilS rfl (rfl)) ?_
            refine aq_r 20 999 rfl (by kernel_rfl) (by kernel_rfl) (by kernel_rfl) (.head _) (by kernel_rfl) (by kernel_rfl) rfl (r_fa (o' := 1) rfl fl130_1 rfl) ?_
            refine aq_one (i := 21) (by kernel_rfl) rfl fun K32 hK32 => ?_
            refine ol_store (id := 401) rfl rfl rfl rfl sz49 rfl rfl (by first | decide | exact Nat.zero_lt_succ _ | simp) ?_
            refine ol_nil (to_k0 (fun _ _ h => h) (hK32 _ _ ⟨.inr (by repeat' first | exact subH_nil | refine subH_same rfl ?_ | (refine subH_blk rfl (by repeat' first | exact sub_nil | refine sub_cons rfl ?_) ?_)), ⟨.inl (by kernel_rfl), trivial⟩⟩ ?_))
            clear hK32
            refine aq_done (by kernel_rfl) ?_
            refine (to_k0 (fun _ _ h => h) (hK26 _ _ _ _ _ ?_))
            clear hK26
            refine wp_seq' fun K33 hK33 => ?_
            refine wp_rega [(999, [(20, _), (65, _), (74, _), (401, _), (403, _), (404, _)]), (8, [(402, _)])] (by kernel_rfl) ⟨.inr (subH_same rfl (subH_same rfl (subH_same rfl (subH_same rfl (subH_same rfl (subH_same rfl subH_nil)))))), ⟨.inr (subH_same rfl subH_nil), trivial⟩⟩ ?_
            refine aq_r 0 999 rfl (by kernel_rfl) (by kernel_rfl) (by kernel_rfl) (.head _) (by kernel_rfl) (by kernel_rfl) rfl (r_move rfl) ?_
            refine aq_r 1 999 rfl (by kernel_rfl) (by kernel_rfl) (by kernel_rfl) (.head _) (by kernel_rfl) (by kernel_rfl) rfl (r_nilS rfl (rfl)) ?_
            refine aq_r 2 999 rfl (by kernel_rfl) (by kernel_rfl) (by kernel_rfl) (.head _) (by kernel_rfl) (by kernel_rfl) rfl (r_fa (o' := 2) rfl fl130_2 rfl) ?_
            refine aq_r 3 999 rfl (by kernel_rfl) (by kernel_rfl) (by kernel_rfl) (.head _) (by kernel_rfl) (by kernel_rfl) rfl (r_ld (id := 401) rfl rfl rfl sc81) ?_
            refine aq_r 4 999 rfl (by kernel_rfl) (by kernel_rfl) (by kernel_rfl) (.head _) (by kernel_rfl) (by kernel_rfl) rfl (r_move rfl) ?_
            refine aq_r 6 999 rfl (by kernel_rfl) (by kernel_rfl) (by kernel_rfl) (.head _) (by kernel_rfl) (by kernel_rfl) rfl (r_move rfl) ?_
            refine aq_one (i := 5) (by kernel_rfl) rfl fun K34 hK34 => ?_
            refine ol_bs0 90 rw38 rfl fun b90 => ?_
            refine ol_nil (to_k0 (fun _ _ h => h) (hK34 _ _ ⟨.inr (by repeat' first | exact subH_nil | refine subH_same rfl ?_ | (refine subH_blk rfl (by repeat' first | exact sub_nil | refine sub_cons rfl ?_) ?_)), ⟨.inr (by repeat' first | exact subH_nil | refine subH_same rfl ?_ | (refine subH_blk rfl (by repeat' first | exact sub_nil | refine sub_cons rfl ?_) ?_)), trivial⟩⟩ ?_))
            clear hK34
            refine aq_one (i := 7) (by kernel_rfl) rfl fun K35 hK35 => ?_
            refine ol_appendR (id := 90) (xs := []) encBest hx rfl rfl rfl rfl rw38 (by omega) rfl fun a92 c92 => ?_
            refine ol_nil (to_k0 (fun _ _ h => h) (hK35 _ _ ⟨.inr (by repeat' first | exact subH_nil | refine subH_same rfl ?_ | (refine subH_blk rfl (by repeat' first | exact sub_nil | refine sub_cons rfl ?_) ?_)), ⟨.inr (by repeat' first | exact subH_nil | refine subH_same rfl ?_ | (refine subH_blk rfl (by repeat' first | exact sub_nil | refine sub_cons rfl ?_) ?_)), trivial⟩⟩ ?_))
            clear hK35
            refine aq_one (i := 8) (by kernel_rfl) rfl fun K36 hK36 => ?_
            refine ol_mapset (K := Value.string) (V := slV) (z := nilS) (k := nm) (v := (a92, 0 + cs.length, c92)) (id := 402) rfl rfl rfl rfl mk81 trivial ?_
            refine ol_nil (to_k0 (fun _ _ h => h) (hK36 _ _ ⟨.inr (by repeat' first | exact subH_nil | refine subH_same rfl ?_ | (refine subH_blk rfl (by repeat' first | exact sub_nil | refine sub_cons rfl ?_) ?_)), ⟨.inl (by kernel_rfl), trivial⟩⟩ ?_))
            clear hK36
            refine aq_done (by kernel_rfl) ?_
            refine (to_k0 (fun _ _ h => h) (hK33 _ _ _ _ _ ?_))
            clear hK33
            refine wp_seq' fun K37 hK37 => ?_
            refine wp_reg ?_
            refine ol_r (r_assign rfl) rfl ?_
            refine ol_nil (to_k0 (fun _ _ h => h) (hK37 _ _ _ _ _ ?_))
            clear hK37
            refine hQ.ret (rvs1 (rv_t rfl)) (fun _ _ h => h) fun w hb hs hB hkd => ?_
            have h0 := addR_0 (has := (pO D nm).isSome) (len := D.length) (zs := zs) (cs := cs) (show nameB nm = true by simpa using hc13) hc17 (by simpa using hc26) (by simpa using hc36) (by omega)
            refine ⟨by rw [h0], hb, ?_, hB, hkd⟩
            rw [h0, if_pos rfl]
            rw [heq] at hs
            simp only [Nat.zero_add, List.nil_append] at hs
            have h3 := (hs.rekey (i := 65) (j := 404) rfl (by decide)).rekey (i := 90) (j := 1500 + es.length) rfl (by omega)
            refine ⟨a82, k - 0 + 1 + (nn - k), c82, a92, c92, h3.sub ?_⟩
            refine subH_blk ((look_cons_ne _ _ (by omega)).trans rfl) (sub_cons rfl (sub_cons rfl (sub_cons rfl sub_nil))) (subH_same ?_ (subH_same ?_ (subH_same ?_ (subH_snoc (fun j x hj => ?_) (look_cons_eq _ _ _)))))
            · exact (look_cons_ne _ _ (by omega)).trans rfl
            · exact (look_cons_ne _ _ (by omega)).trans rfl
            · exact (look_cons_ne _ _ (by omega)).trans rfl
            · have hjl := (List.getElem?_eq_some_iff.1 hj).1
              simp only [List.cons_append, List.nil_append]
              repeat' refine (look_cons_ne _ _ (by omega)).trans ?_
              exact look_tailE hj
          ·refine ol_bs1 74 rfl rfl rw49 rfl rfl rfl fun a74 => ?_
           refine ol_nil (to_k0 (fun _ _ h => h) (hK27 _ _ ⟨.inr (by repeat' first | exact subH_nil | refine subH_same rfl ?_ | (refine subH_blk rfl (by repeat' first | exact sub_nil | refine sub_cons rfl ?_) ?_)), ⟨.inr (by repeat' first | exact subH_nil | refine subH_same rfl ?_ | (refine subH_blk rfl (by repeat' first | exact sub_nil | refine sub_cons rfl ?_) ?_)), trivial⟩⟩ ?_))
           clear hK27
           refine aq_one (i := 1) (by kernel_rfl) rfl fun K28 hK28 => ?_
           refine ol_bs0 65 rw49 rfl fun b65 => ?_
           refine ol_nil (to_k0 (fun _ _ h => h) (hK28 _ _ ⟨.inr (by repeat' first | exact subH_nil | refine subH_same rfl ?_ | (refine subH_blk rfl (by repeat' first | exact sub_nil | refine sub_cons rfl ?_) ?_)), ⟨.inr (by repeat' first | exact subH_nil | refine subH_same rfl ?_ | (refine subH_blk rfl (by repeat' first | exact sub_nil | refine sub_cons rfl ?_) ?_)), trivial⟩⟩ ?_))
           clear hK28
           refine aq_one (i := 8) (by kernel_rfl) rfl fun K29 hK29 => ?_
           refine ol_appendRW (id := 65) (xs := []) encStr (fun w1 hb1 hs1 hB1 => (Sat.rd hs1 (E := encStr) (id := 404) rfl rfl).partAt e1 (by omega) (by omega)) rfl rfl rfl rfl rw49 (by omega) rfl fun a72 c72 => ?_
           refine ol_nil (to_k0 (fun _ _ h => h) (hK29 _ _ ⟨.inr (by repeat' first | exact subH_nil | refine subH_same rfl ?_ | (refine subH_blk rfl (by repeat' first | exact sub_nil | refine sub_cons rfl ?_) ?_)), ⟨.inr (by repeat' first | exact subH_nil | refine subH_same rfl ?_ | (refine subH_blk rfl (by repeat' first | exact sub_nil | refine sub_cons rfl ?_) ?_)), trivial⟩⟩ ?_))
           clear hK29
           refine aq_one (i := 11) (by kernel_rfl) rfl fun K30 hK30 => ?_
           refine ol_append1 (id := 65) (id2 := 74) rfl rfl rfl rfl rfl rw49 (by omega) rfl fun a75 c75 => ?_
           refine ol_nil (to_k0 (fun _ _ h => h) (hK30 _ _ ⟨.inr (by repeat' first | exact subH_nil | refine subH_same rfl ?_ | (refine subH_blk rfl (by repeat' first | exact sub_nil | refine sub_cons rfl ?_) ?_)), ⟨.inr (by repeat' first | exact subH_nil | refine subH_same rfl ?_ | (refine subH_blk rfl (by repeat' first | exact sub_nil | refine sub_cons rfl ?_) ?_)), trivial⟩⟩ ?_))
           clear hK30
           refine aq_one (i := 18) (by kernel_rfl) rfl fun K31 hK31 => ?_
           refine ol_appendRW (id := 65) (xs := [] ++ (names.drop 0).take (k - 0) ++ [nm]) encStr (fun w1 hb1 hs1 hB1 => (Sat.rd hs1 (E := encStr) (id := 404) rfl rfl).partAt e2 (by omega) (by omega)) rfl (by rw [show encStr.enc ([] ++ (names.drop 0).take (k - 0) ++ [nm]) = encStr.enc ([] ++ (names.drop 0).take (k - 0)) ++ [Value.string nm] from Enc.enc_append _ _ _]; rfl) rfl rfl rw49 (by omega) rfl fun a82 c82 => ?_
           refine ol_nil (to_k0 (fun _ _ h => h) (hK31 _ _ ⟨.inr (by repeat' first | exact subH_nil | refine subH_same rfl ?_ | (refine subH_blk rfl (by repeat' first | exact sub_nil | refine sub_cons rfl ?_) ?_)), ⟨.inr (by repeat' first | exact subH_nil | refine subH_same rfl ?_ | (refine subH_blk rfl (by repeat' first | exact sub_nil | refine sub_cons rfl ?_) ?_)), trivial⟩⟩ ?_))
           clear hK31
           refine aq_r 19 999 rfl (by kernel_rfl) (by kernel_rfl) (by kernel_rfl) (.head _) (by kernel_rfl) (by kernel_rfl) rfl (r_nilS rfl (rfl)) ?_
           refine aq_r 20 999 rfl (by kernel_rfl) (by kernel_rfl) (by kernel_rfl) (.head _) (by kernel_rfl) (by kernel_rfl) rfl (r_fa (o' := 1) rfl fl130_1 rfl) ?_
           refine aq_one (i := 21) (by kernel_rfl) rfl fun K32 hK32 => ?_
           refine ol_store (id := 401) rfl rfl rfl rfl sz49 rfl rfl (by first | decide | exact Nat.zero_lt_succ _ | simp) ?_
           refine ol_nil (to_k0 (fun _ _ h => h) (hK32 _ _ ⟨.inr (by repeat' first | exact subH_nil | refine subH_same rfl ?_ | (refine subH_blk rfl (by repeat' first | exact sub_nil | refine sub_cons rfl ?_) ?_)), ⟨.inl (by kernel_rfl), trivial⟩⟩ ?_))
           clear hK32
           refine aq_done (by kernel_rfl) ?_
           refine (to_k0 (fun _ _ h => h) (hK26 _ _ _ _ _ ?_))
           clear hK26
           refine wp_seq' fun K33 hK33 => ?_
           refine wp_rega [(999, [(20, _), (65, _), (74, _), (401, _), (403, _), (404, _)]), (8, [(402, _)])] (by kernel_rfl) ⟨.inr (subH_same rfl (subH_same rfl (subH_same rfl (subH_same rfl (subH_same rfl (subH_same rfl subH_nil)))))), ⟨.inr (subH_same rfl subH_nil), trivial⟩⟩ ?_
           refine aq_r 0 999 rfl (by kernel_rfl) (by kernel_rfl) (by kernel_rfl) (.head _) (by kernel_rfl) (by kernel_rfl) rfl (r_move rfl) ?_
           refine aq_r 1 999 rfl (by kernel_rfl) (by kernel_rfl) (by kernel_rfl) (.head _) (by kernel_rfl) (by kernel_rfl) rfl (r_nilS rfl (rfl)) ?_
           refine aq_r 2 999 rfl (by kernel_rfl) (by kernel_rfl) (by kernel_rfl) (.head _) (by kernel_rfl) (by kernel_rfl) rfl (r_fa (o' := 2) rfl fl130_2 rfl) ?_
           refine aq_r 3 999 rfl (by kernel_rfl) (by kernel_rfl) (by kernel_rfl) (.head _) (by kernel_rfl) (by kernel_rfl) rfl (r_ld (id := 401) rfl rfl rfl sc81) ?_
           refine aq_r 4 999 rfl (by kernel_rfl) (by kernel_rfl) (by kernel_rfl) (.head _) (by kernel_rfl) (by kernel_rfl) rfl (r_move rfl) ?_
           refine aq_r 6 999 rfl (by kernel_rfl) (by kernel_rfl) (by kernel_rfl) (.head _) (by kernel_rfl) (by kernel_rfl) rfl (r_move rfl) ?_
           refine aq_one (i := 5) (by kernel_rfl) rfl fun K34 hK34 => ?_
           refine ol_bs0 90 rw38 rfl fun b90 => ?_
           refine ol_nil (to_k0 (fun _ _ h => h) (hK34 _ _ ⟨.inr (by repeat' first | exact subH_nil | refine subH_same rfl ?_ | (refine subH_blk rfl (by repeat' first | exact sub_nil | refine sub_cons rfl ?_) ?_)), ⟨.inr (by repeat' first | exact subH_nil | refine subH_same rfl ?_ | (refine subH_blk rfl (by repeat' first | exact sub_nil | refine sub_cons rfl ?_) ?_)), trivial⟩⟩ ?_))
           clear hK34
           refine aq_one (i := 7) (by kernel_rfl) rfl fun K35 hK35 => ?_
           refine ol_appendR (id := 90) (xs := []) encBest hx rfl rfl rfl rfl rw38 (by omega) rfl fun a92 c92 => ?_
           refine ol_nil (to_k0 (fun _ _ h => h) (hK35 _ _ ⟨.inr (by repeat' first | exact subH_nil | refine subH_same rfl ?_ | (refine subH_blk rfl (by repeat' first | exact sub_nil | refine sub_cons rfl ?_) ?_)), ⟨.inr (by repeat' first | exact subH_nil | refine subH_same rfl ?_ | (refine subH_blk rfl (by repeat' first | exact sub_nil | refine sub_cons rfl ?_) ?_)), trivial⟩⟩ ?_))
           clear hK35
           refine aq_one (i := 8) (by kernel_rfl) rfl fun K36 hK36 => ?_
           refine ol_mapset (K := Value.string) (V := slV) (z := nilS) (k := nm) (v := (a92, 0 + cs.length, c92)) (id := 402) rfl rfl rfl rfl mk81 trivial ?_
           refine ol_nil (to_k0 (fun _ _ h => h) (hK36 _ _ ⟨.inr (by repeat' first | exact subH_nil | refine subH_same rfl ?_ | (refine subH_blk rfl (by repeat' first | exact sub_nil | refine sub_cons rfl ?_) ?_)), ⟨.inl (by kernel_rfl), trivial⟩⟩ ?_))
           clear hK36
           refine aq_done (by kernel_rfl) ?_
           refine (to_k0 (fun _ _ h => h) (hK33 _ _ _ _ _ ?_))
           clear hK33
           refine wp_seq' fun K37 hK37 => ?_
           refine wp_reg ?_
           refine ol_r (r_assign rfl) rfl ?_
           refine ol_nil (to_k0 (fun _ _ h => h) (hK37 _ _ _ _ _ ?_))
           clear hK37
           refine hQ.ret (rvs1 (rv_t rfl)) (fun _ _ h => h) fun w hb hs hB hkd => ?_
           have h0 := addR_0 (has := (pO D nm).isSome) (len := D.length) (zs := zs) (cs := cs) (show nameB nm = true by simpa using hc13) hc17 (by simpa using hc26) (by simpa using hc36) (by omega)
           refine ⟨by rw [h0], hb, ?_, hB, hkd⟩
           rw [h0, if_pos rfl]
           rw [heq] at hs
           simp only [Nat.zero_add, List.nil_append] at hs
           have h3 := (hs.rekey (i := 65) (j := 404) rfl (by decide)).rekey (i := 90) (j := 1500 + es.length) rfl (by omega)
           refine ⟨a82, k - 0 + 1 + (nn - k), c82, a92, c92, h3.sub ?_⟩
           refine subH_blk ((look_cons_ne _ _ (by omega)).trans rfl) (sub_cons rfl (sub_cons rfl (sub_cons rfl sub_nil))) (subH_same ?_ (subH_same ?_ (subH_same ?_ (subH_snoc (fun j x hj => ?_) (look_cons_eq _ _ _)))))
           · exact (look_cons_ne _ _ (by omega)).trans rfl
           · exact (look_cons_ne _ _ (by omega)).trans rfl
           · exact (look_cons_ne _ _ (by omega)).trans rfl
           · have hjl := (List.getElem?_eq_some_iff.1 hj).1
             simp only [List.cons_append, List.nil_append]
             repeat' refine (look_cons_ne _ _ (by omega)).trans ?_
             exact look_tailE hj
        ·have phs50 := hs50; try simp only [decide_eq_true_eq, decide_eq_false_iff_not, Bool.not_eq_true', Bool.not_eq_false', Bool.not_true, Bool.not_false] at phs50
         refine ol_s rfl rfl hs50 rfl ?_
         refine ol_s rfl rfl hs50 rfl ?_
         refine ol_s rfl rfl hs50 rfl ?_
         refine ol_s rfl rfl hs50 rfl ?_
         refine ol_s rfl rfl hs50 rfl ?_
         refine ol_s rfl rfl hs50 rfl ?_
         refine ol_s rfl rfl hs50 rfl ?_
         refine ol_s rfl rfl hs50 rfl ?_
         refine ol_s rfl rfl hs50 rfl ?_
         refine ol_s rfl rfl hs50 rfl ?_
         refine ol_r (r_pickF rfl hs50 rfl) rfl ?_
         refine ol_nil (to_k0 (fun _ _ h => h) (hK25 _ _ _ _ _ ?_))
         clear hK25
         refine wp_condF rfl ?_
         refine wp_exit' (to_k0 (fun _ _ h => h) (hK22 _ _ _ _ _ ?_))
         clear hK22
         refine wp_seq' fun K38 hK38 => ?_
         refine wp_rega [(999, [(20, _), (402, _), (403, _), (404, _)]), (21, [(401, _)])] (by kernel_rfl) ⟨.inr (subH_same rfl (subH_same rfl (subH_same rfl (subH_same rfl subH_nil)))), ⟨.inr (subH_same rfl subH_nil), trivial⟩⟩ ?_
         obtain ⟨p1, q1, e1, _⟩ := hr0.part (l := 0) (h := k) (by omega) (by omega)
         obtain ⟨p2, q2, e2, _⟩ := hr0.part (l := k) (h := nn) (by omega) (by omega)
         have hno : nm ∉ pKeys D := fun h => by rw [isSome_mem.2 h] at hc36; simp at hc36
         have hlow : ∀ i y, i < k → names[i]? = some y → ltB y nm := by
           rcases Nat.eq_zero_or_pos k with h0 | h0
           · intro i y hi; omega
           · first
               | (exfalso; omega)
               | (intro i y hi hy
                  have hm : x57 ∈ names := List.mem_of_getElem? hx57
                  have hne : x57 ≠ nm := fun he => hno (by rw [hnm, mem_ordBA, he] at hm; exact hm)
                  rw [show ((k : Int) - 1).toNat = k - 1 by omega] at hx57
                  have hz := gtr_no (x := x57) (y := nm) (by rw [hc61]; rfl) hne
                  exact up_low hup hx57 hz i y (by omega) hy)
         have heq : [] ++ (names.drop 0).take (k - 0) ++ [nm] ++ (names.drop k).take (nn - k) = ordBA (pKeys D ++ [nm]) := by
           rw [List.nil_append, List.drop_zero, Nat.sub_zero, List.take_of_length_le (l := names.drop k) (by rw [List.length_drop]; omega)]
           exact ins_ord hnm hno hlow hP fun y => by simp
         have hln2 : 0 + (k - 0) + 1 + (nn - k) = nn + 1 := by omega
         refine aq_r 0 999 rfl (by kernel_rfl) (by kernel_rfl) (by kernel_rfl) (.head _) (by kernel_rfl) (by kernel_rfl) rfl (r_move rfl) ?_
         refine aq_r 2 999 rfl (by kernel_rfl) (by kernel_rfl) (by kernel_rfl) (.head _) (by kernel_rfl) (by kernel_rfl) rfl (r_move rfl) ?_
         refine aq_r 3 999 rfl (by kernel_rfl) (by kernel_rfl) (by kernel_rfl) (.head _) (by kernel_rfl) (by kernel_rfl) rfl (r_nilS rfl (rfl)) ?_
         refine aq_r 4 999 rfl (by kernel_rfl) (by kernel_rfl) (by kernel_rfl) (.head _) (by kernel_rfl) (by kernel_rfl) rfl (r_fa (o' := 1) rfl fl130_1 rfl) ?_
         refine aq_r 5 21 rfl (by kernel_rfl) (by kernel_rfl) (by kernel_rfl) (.tail _ (.head _)) (by kernel_rfl) (by kernel_rfl) rfl (r_ld (id := 401) rfl rfl rfl sc49) ?_
         refine aq_r 6 999 rfl (by kernel_rfl) (by kernel_rfl) (by kernel_rfl) (.head _) (by kernel_rfl) (by kernel_rfl) rfl (r_move rfl) ?_
         refine aq_r 7 999 rfl (by kernel_rfl) (by kernel_rfl) (by kernel_rfl) (.head _) (by kernel_rfl) (by kernel_rfl) rfl (Runs.val e1 (r_sl (l := none) (h := some (k : Int)) rfl rfl rfl sl49 (by simp only [Option.getD_some, Option.getD_none]; omega) (by omega))) ?_
         refine aq_r 9 999 rfl (by kernel_rfl) (by kernel_rfl) (by kernel_rfl) (.head _) (by kernel_rfl) (by kernel_rfl) rfl (r_move rfl) ?_
         refine aq_r 12 999 rfl (by kernel_rfl) (by kernel_rfl) (by kernel_rfl) (.head _) (by kernel_rfl) (by kernel_rfl) rfl (r_move rfl) ?_
         refine aq_r 13 999 rfl (by kernel_rfl) (by kernel_rfl) (by kernel_rfl) (.head _) (by kernel_rfl) (by kernel_rfl) rfl (r_nilS rfl (rfl)) ?_
         refine aq_r 14 999 rfl (by kernel_rfl) (by kernel_rfl) (by kernel_rfl) (.head _) (by kernel_rfl) (by kernel_rfl) rfl (r_fa (o' := 1) rfl fl130_1 rfl) ?_
         refine aq_r 15 21 rfl (by kernel_rfl) (by kernel_rfl) (by kernel_rfl) (.tail _ (.head _)) (by kernel_rfl) (by kernel_rfl) rfl (r_ld (id := 401) rfl rfl rfl sc49) ?_
         refine aq_r 16 999 rfl (by kernel_rfl) (by kernel_rfl) (by kernel_rfl) (.head _) (by kernel_rfl) (by kernel_rfl) rfl (r_move rfl) ?_
         refine aq_r 17 999 rfl (by kernel_rfl) (by kernel_rfl) (by kernel_rfl) (.head _) (by kernel_rfl) (by kernel_rfl) rfl (Runs.val e2 (r_sl (l := some (k : Int)) (h := none) rfl rfl rfl sl49 (by simp only [Option.getD_some, Option.getD_none]; omega) (by omega))) ?_
         refine aq_two (i := 1) (j := 10) (by kernel_rfl) rfl rfl (fun K39 hK39 => ?_) (fun K39 hK39 => ?_)
         ·refine ol_bs0 65 rw49 rfl fun b65 => ?_
          refine ol_nil (to_k0 (fun _ _ h => h) (hK39 _ _ ⟨.inr (by repeat' first | exact subH_nil | refine subH_same rfl ?_ | (refine subH_blk rfl (by repeat' first | exact sub_nil | refine sub_cons rfl ?_) ?_)), ⟨.inr (by repeat' first | exact subH_nil | refine subH_same rfl ?_ | (refine subH_blk rfl (by repeat' first | exact sub_nil | refine sub_cons rfl ?_) ?_)), trivial⟩⟩ ?_))
          clear hK39
          refine aq_two (i := 8) (j := 10) (by kernel_rfl) rfl rfl (fun K40 hK40 => ?_) (fun K40 hK40 => ?_)
          ·refine ol_appendRW (id := 65) (xs := []) encStr (fun w1 hb1 hs1 hB1 => (Sat.rd hs1 (E := encStr) (id := 404) rfl rfl).partAt e1 (by omega) (by omega)) rfl rfl rfl rfl rw49 (by omega) rfl fun a72 c72 => ?_
           refine ol_nil (to_k0 (fun _ _ h => h) (hK40 _ _ ⟨.inr (by repeat' first | exact subH_nil | refine subH_same rfl ?_ | (refine subH_blk rfl (by repeat' first | exact sub_nil | refine sub_cons rfl ?_) ?_)), ⟨.inr (by repeat' first | exact subH_nil | refine subH_same rfl ?_ | (refine subH_blk rfl (by repeat' first | exact sub_nil | refine sub_cons rfl ?_) ?_)), trivial⟩⟩ ?_))
           clear hK40
           refine aq_one (i := 10) (by kernel_rfl) rfl fun K41 hK41 => ?_
           refine ol_bs1 74 rfl rfl rw49 rfl rfl rfl fun a74 => ?_
           refine ol_nil (to_k0 (fun _ _ h => h) (hK41 _ _ ⟨.inr (by repeat' first | exact subH_nil | refine subH_same rfl ?_ | (refine subH_blk rfl (by repeat' first | exact sub_nil | refine sub_cons rfl ?_) ?_)), ⟨.inr (by repeat' first | exact subH_nil | refine subH_same rfl ?_ | (refine subH_blk rfl (by repeat' first | exact sub_nil | refine sub_cons rfl ?_) ?_)), trivial⟩⟩ ?_))
           clear hK41
           refine aq_one (i := 11) (by kernel_rfl) rfl fun K42 hK42 => ?_
           refine ol_append1 (id := 65) (id2 := 74) rfl rfl rfl rfl rfl rw49 (by omega) rfl fun a75 c75 => ?_
           refine ol_nil (to_k0 (fun _ _ h => h) (hK42 _ _ ⟨.inr (by repeat' first | exact subH_nil | refine subH_same rfl ?_ | (refine subH_blk rfl (by repeat' first | exact sub_nil | refine sub_cons rfl ?_) ?_)), ⟨.inr (by repeat' first | exact subH_nil | refine subH_same rfl ?_ | (refine subH_blk rfl (by repeat' first | exact sub_nil | refine sub_cons rfl ?_) ?_)), trivial⟩⟩ ?_))
           clear hK42
           refine aq_one (i := 18) (by kernel_rfl) rfl fun K43 hK43 => ?_
           refine ol_appendRW (id := 65) (xs := [] ++ (names.drop 0).take (k - 0) ++ [nm]) encStr (fun w1 hb1 hs1 hB1 => (Sat.rd hs1 (E := encStr) (id := 404) rfl rfl).partAt e2 (by omega) (by omega)) rfl (by rw [show encStr.enc ([] ++ (names.drop 0).take (k - 0) ++ [nm]) = encStr.enc ([] ++ (names.drop 0).take (k - 0)) ++ [Value.string nm] from Enc.enc_append _ _ _]; rfl) rfl rfl rw49 (by omega) rfl fun a82 c82 => ?_
           refine ol_nil (to_k0 (fun _ _ h => h) (hK43 _ _ ⟨.inr (by repeat' first | exact subH_nil | refine subH_same rfl ?_ | (refine subH_blk rfl (by repeat' first | exact sub_nil | refine sub_cons rfl ?_) ?_)), ⟨.inr (by repeat' first | exact subH_nil | refine subH_same rfl ?_ | (refine subH_blk rfl (by repeat' first | exact sub_nil | refine sub_cons rfl ?_) ?_)), trivial⟩⟩ ?_))
           clear hK43
           refine aq_r 19 999 rfl (by kernel_rfl) (by kernel_rfl) (by kernel_rfl) (.head _) (by kernel_rfl) (by kernel_rfl) rfl (r_nilS rfl (rfl)) ?_
           refine aq_r 20 999 rfl (by kernel_rfl) (by kernel_rfl) (by kernel_rfl) (.head _) (by kernel_rfl) (by kernel_rfl) rfl (r_fa (o' := 1) rfl fl130_1 rfl) ?_
           refine aq_one (i := 21) (by kernel_rfl) rfl fun K44 hK44 => ?_
           refine ol_store (id := 401) rfl rfl rfl rfl sz49 rfl rfl (by first | decide | exact Nat.zero_lt_succ _ | simp) ?_
           refine ol_nil (to_k0 (fun _ _ h => h) (hK44 _ _ ⟨.inr (by repeat' first | exact subH_nil | refine subH_same rfl ?_ | (refine subH_blk rfl (by repeat' first | exact sub_nil | refine sub_cons rfl ?_) ?_)), ⟨.inl (by kernel_rfl), trivial⟩⟩ ?_))
           clear hK44
           refine aq_done (by kernel_rfl) ?_
           refine (to_k0 (fun _ _ h => h) (hK38 _ _ _ _ _ ?_))
           clear hK38
           refine wp_seq' fun K45 hK45 => ?_
           refine wp_rega [(999, [(20, _), (65, _), (74, _), (401, _), (403, _), (404, _)]), (8, [(402, _)])] (by kernel_rfl) ⟨.inr (subH_same rfl (subH_same rfl (subH_same rfl (subH_same rfl (subH_same rfl (subH_same rfl subH_nil)))))), ⟨.inr (subH_same rfl subH_nil), trivial⟩⟩ ?_
           refine aq_r 0 999 rfl (by kernel_rfl) (by kernel_rfl) (by kernel_rfl) (.head _) (by kernel_rfl) (by kernel_rfl) rfl (r_move rfl) ?_
           refine aq_r 1 999 rfl (by kernel_rfl) (by kernel_rfl) (by kernel_rfl) (.head _) (by kernel_rfl) (by kernel_rfl) rfl (r_nilS rfl (rfl)) ?_
           refine aq_r 2 999 rfl (by kernel_rfl) (by kernel_rfl) (by kernel_rfl) (.head _) (by kernel_rfl) (by kernel_rfl) rfl (r_fa (o' := 2) rfl fl130_2 rfl) ?_
           refine aq_r 3 999 rfl (by kernel_rfl) (by kernel_rfl) (by kernel_rfl) (.head _) (by kernel_rfl) (by kernel_rfl) rfl (r_ld (id := 401) rfl rfl rfl sc81) ?_
           refine aq_r 4 999 rfl (by kernel_rfl) (by kernel_rfl) (by kernel_rfl) (.head _) (by kernel_rfl) (by kernel_rfl) rfl (r_move rfl) ?_
           refine aq_r 6 999 rfl (by kernel_rfl) (by kernel_rfl) (by kernel_rfl) (.head _) (by kernel_rfl) (by kernel_rfl) rfl (r_move rfl) ?_
           refine aq_one (i := 5) (by kernel_rfl) rfl fun K46 hK46 => ?_
           refine ol_bs0 90 rw38 rfl fun b90 => ?_
           refine ol_nil (to_k0 (fun _ _ h => h) (hK46 _ _ ⟨.inr (by repeat' first | exact subH_nil | refine subH_same rfl ?_ | (refine subH_blk rfl (by repeat' first | exact sub_nil | refine sub_cons rfl ?_) ?_)), ⟨.inr (by repeat' first | exact subH_nil | refine subH_same rfl ?_ | (refine subH_blk rfl (by repeat' first | exact sub_nil | refine sub_cons rfl ?_) ?_)), trivial⟩⟩ ?_))
           clear hK46
           refine aq_one (i := 7) (by kernel_rfl) rfl fun K47 hK47 => ?_
           refine ol_appendR (id := 90) (xs := []) encBest hx rfl rfl rfl rfl rw38 (by omega) rfl fun a92 c92 => ?_
           refine ol_nil (to_k0 (fun _ _ h => h) (hK47 _ _ ⟨.inr (by repeat' first | exact subH_nil | refine subH_same rfl ?_ | (refine subH_blk rfl (by repeat' first | exact sub_nil | refine sub_cons rfl ?_) ?_)), ⟨.inr (by repeat' first | exact subH_nil | refine subH_same rfl ?_ | (refine subH_blk rfl (by repeat' first | exact sub_nil | refine sub_cons rfl ?_) ?_)), trivial⟩⟩ ?_))
           clear hK47
           refine aq_one (i := 8) (by kernel_rfl) rfl fun K48 hK48 => ?_
           refine ol_mapset (K := Value.string) (V := slV) (z := nilS) (k := nm) (v := (a92, 0 + cs.length, c92)) (id := 402) rfl rfl rfl rfl mk81 trivial ?_
           refine ol_nil (to_k0 (fun _ _ h => h) (hK48 _ _ ⟨.inr (by repeat' first | exact subH_nil | refine subH_same rfl ?_ | (refine subH_blk rfl (by repeat' first | exact sub_nil | refine sub_cons rfl ?_) ?_)), ⟨.inl (by kernel_rfl), trivial⟩⟩ ?_))
           clear hK48
           refine aq_done (by kernel_rfl) ?_
           refine (to_k0 (fun _ _ h => h) (hK45 _ _ _ _ _ ?_))
           clear hK45
           refine wp_seq' fun K49 hK49 => ?_
           refine wp_reg ?_
           refine ol_r (r_assign rfl) rfl ?_
           refine ol_nil (to_k0 (fun _ _ h => h) (hK49 _ _ _ _ _ ?_))
           clear hK49
           refine hQ.ret (rvs1 (rv_t rfl)) (fun _ _ h => h) fun w hb hs hB hkd => ?_
           have h0 := addR_0 (has := (pO D nm).isSome) (len := D.length) (zs := zs) (cs := cs) (show nameB nm = true by simpa using hc13) hc17 (by simpa using hc26) (by simpa using hc36) (by omega)
           refine ⟨by rw [h0], hb, ?_, hB, hkd⟩
           rw [h0, if_pos rfl]
           rw [heq] at hs
           simp only [Nat.zero_add, List.nil_append] at hs
           have h3 := (hs.rekey (i := 65) (j := 404) rfl (by decide)).rekey (i := 90) (j := 1500 + es.length) rfl (by omega)
           refine ⟨a82, k - 0 + 1 + (nn - k), c82, a92, c92, h3.sub ?_⟩
           refine subH_blk ((look_cons_ne _ _ (by omega)).trans rfl) (sub_cons rfl (sub_cons rfl (sub_cons rfl sub_nil))) (subH_same ?_ (subH_same ?_ (subH_same ?_ (subH_snoc (fun j x hj => ?_) (look_cons_eq _ _ _)))))
           · exact (look_cons_ne _ _ (by omega)).trans rfl
           · exact (look_cons_ne _ _ (by omega)).trans rfl
           · exact (look_cons_ne _ _ (by omega)).trans rfl
           · have hjl := (List.getElem?_eq_some_iff.1 hj).1
             simp only [List.cons_append, List.nil_append]
             repeat' refine (look_cons_ne _ _ (by omega)).trans ?_
             exact look_tailE hj
          ·refine ol_bs1 74 rfl rfl rw49 rfl rfl rfl fun a74 => ?_
           refine ol_nil (to_k0 (fun _ _ h => h) (hK40 _ _ ⟨.inr (by repeat' first | exact subH_nil | refine subH_same rfl ?_ | (refine subH_blk rfl (by repeat' first | exact sub_nil | refine sub_cons rfl ?_) ?_)), ⟨.inr (by repeat' first | exact subH_nil | refine subH_same rfl ?_ | (refine subH_blk rfl (by repeat' first | exact sub_nil | refine sub_cons rfl ?_) ?_)), trivial⟩⟩ ?_))
           clear hK40
           refine aq_one (i := 8) (by kernel_rfl) rfl fun K41 hK41 => ?_
           refine ol_appendRW (id := 65) (xs := []) encStr (fun w1 hb1 hs1 hB1 => (Sat.rd hs1 (E := encStr) (id := 404) rfl rfl).partAt e1 (by omega) (by omega)) rfl rfl rfl rfl rw49 (by omega) rfl fun a72 c72 => ?_
           refine ol_nil (to_k0 (fun _ _ h => h) (hK41 _ _ ⟨.inr (by repeat' first | exact subH_nil | refine subH_same rfl ?_ | (refine subH_blk rfl (by repeat' first | exact sub_nil | refine sub_cons rfl ?_) ?_)), ⟨.inr (by repeat' first | exact subH_nil | refine subH_same rfl ?_ | (refine subH_blk rfl (by repeat' first | exact sub_nil | refine sub_cons rfl ?_) ?_)), trivial⟩⟩ ?_))
           clear hK41
           refine aq_one (i := 11) (by kernel_rfl) rfl fun K42 hK42 => ?_
           refine ol_append1 (id := 65) (id2 := 74) rfl rfl rfl rfl rfl rw49 (by omega) rfl fun a75 c75 => ?_
           refine ol_nil (to_k0 (fun _ _ h => h) (hK42 _ _ ⟨.inr (by repeat' first | exact subH_nil | refine subH_same rfl ?_ | (refine subH_blk rfl (by repeat' first | exact sub_nil | refine sub_cons rfl ?_) ?_)), ⟨.inr (by repeat' first | exact subH_nil | refine subH_same rfl ?_ | (refine subH_blk rfl (by repeat' first | exact sub_nil | refine sub_cons rfl ?_) ?_)), trivial⟩⟩ ?_))
           clear hK42
           refine aq_one (i := 18) (by kernel_rfl) rfl fun K43 hK43 => ?_
           refine ol_appendRW (id := 65) (xs := [] ++ (names.drop 0).take (k - 0) ++ [nm]) encStr (fun w1 hb1 hs1 hB1 => (Sat.rd hs1 (E := encStr) (id := 404) rfl rfl).partAt e2 (by omega) (by omega)) rfl (by rw [show encStr.enc ([] ++ (names.drop 0).take (k - 0) ++ [nm]) = encStr.enc ([] ++ (names.drop 0).take (k - 0)) ++ [Value.string nm] from Enc.enc_append _ _ _]; rfl) rfl rfl rw49 (by omega) rfl fun a82 c82 => ?_
           refine ol_nil (to_k0 (fun _ _ h => h) (hK43 _ _ ⟨.inr (by repeat' first | exact subH_nil | refine subH_same rfl ?_ | (refine subH_blk rfl (by repeat' first | exact sub_nil | refine sub_cons rfl ?_) ?_)), ⟨.inr (by repeat' first | exact subH_nil | refine subH_same rfl ?_ | (refine subH_blk rfl (by repeat' first | exact sub_nil | refine sub_cons rfl ?_) ?_)), trivial⟩⟩ ?_))
           clear hK43
           refine aq_r 19 999 rfl (by kernel_rfl) (by kernel_rfl) (by kernel_rfl) (.head _) (by kernel_rfl) (by kernel_rfl) rfl (r_nilS rfl (rfl)) ?_
           refine aq_r 20 999 rfl (by kernel_rfl) (by kernel_rfl) (by kernel_rfl) (.head _) (by kernel_rfl) (by kernel_rfl) rfl (r_fa (o' := 1) rfl fl130_1 rfl) ?_
           refine aq_one (i := 21) (by kernel_rfl) rfl fun K44 hK44 => ?_
           refine ol_store (id := 401) rfl rfl rfl rfl sz49 rfl rfl (by first | decide | exact Nat.zero_lt_succ _ | simp) ?_
           refine ol_nil (to_k0 (fun _ _ h => h) (hK44 _ _ ⟨.inr (by repeat' first | exact subH_nil | refine subH_same rfl ?_ | (refine subH_blk rfl (by repeat' first | exact sub_nil | refine sub_cons rfl ?_) ?_)), ⟨.inl (by kernel_rfl), trivial⟩⟩ ?_))
           clear hK44
           refine aq_done (by kernel_rfl) ?_
           refine (to_k0 (fun _ _ h => h) (hK38 _ _ _ _ _ ?_))
           clear hK38
           refine wp_seq' fun K45 hK45 => ?_
           refine wp_rega [(999, [(20, _), (65, _), (74, _), (401, _), (403, _), (404, _)]), (8, [(402, _)])] (by kernel_rfl) ⟨.inr (subH_same rfl (subH_same rfl (subH_same rfl (subH_same rfl (subH_same rfl (subH_same rfl subH_nil)))))), ⟨.inr (subH_same rfl subH_nil), trivial⟩⟩ ?_
           refine aq_r 0 999 rfl (by kernel_rfl) (by kernel_rfl) (by kernel_rfl) (.head _) (by kernel_rfl) (by kernel_rfl) rfl (r_move rfl) ?_
           refine aq_r 1 999 rfl (by kernel_rfl) (by kernel_rfl) (by kernel_rfl) (.head _) (by kernel_rfl) (by kernel_rfl) rfl (r_nilS rfl (rfl)) ?_
           refine aq_r 2 999 rfl (by kernel_rfl) (by kernel_rfl) (by kernel_rfl) (.head _) (by kernel_rfl) (by kernel_rfl) rfl (r_fa (o' := 2) rfl fl130_2 rfl) ?_
           refine aq_r 3 999 rfl (by kernel_rfl) (by kernel_rfl) (by kernel_rfl) (.head _) (by kernel_rfl) (by kernel_rfl) rfl (r_ld (id := 401) rfl rfl rfl sc81) ?_
           refine aq_r 4 999 rfl (by kernel_rfl) (by kernel_rfl) (by kernel_rfl) (.head _) (by kernel_rfl) (by kernel_rfl) rfl (r_move rfl) ?_
           refine aq_r 6 999 rfl (by kernel_rfl) (by kernel_rfl) (by kernel_rfl) (.head _) (by kernel_rfl) (by kernel_rfl) rfl (r_move rfl) ?_
           refine aq_one (i := 5) (by kernel_rfl) rfl fun K46 hK46 => ?_
           refine ol_bs0 90 rw38 rfl fun b90 => ?_
           refine ol_nil (to_k0 (fun _ _ h => h) (hK46 _ _ ⟨.inr (by repeat' first | exact subH_nil | refine subH_same rfl ?_ | (refine subH_blk rfl (by repeat' first | exact sub_nil | refine sub_cons rfl ?_) ?_)), ⟨.inr (by repeat' first | exact subH_nil | refine subH_same rfl ?_ | (refine subH_blk rfl (by repeat' first | exact sub_nil | refine sub_cons rfl ?_) ?_)), trivial⟩⟩ ?_))
           clear hK46
           refine aq_one (i := 7) (by kernel_rfl) rfl fun K47 hK47 => ?_
           refine ol_appendR (id := 90) (xs := []) encBest hx rfl rfl rfl rfl rw38 (by omega) rfl fun a92 c92 => ?_
           refine ol_nil (to_k0 (fun _ _ h => h) (hK47 _ _ ⟨.inr (by repeat' first | exact subH_nil | refine subH_same rfl ?_ | (refine subH_blk rfl (by repeat' first | exact sub_nil | refine sub_cons rfl ?_) ?_)), ⟨.inr (by repeat' first | exact subH_nil | refine subH_same rfl ?_ | (refine subH_blk rfl (by repeat' first | exact sub_nil | refine sub_cons rfl ?_) ?_)), trivial⟩⟩ ?_))
           clear hK47
           refine aq_one (i := 8) (by kernel_rfl) rfl fun K48 hK48 => ?_
           refine ol_mapset (K := Value.string) (V := slV) (z := nilS) (k := nm) (v := (a92, 0 + cs.length, c92)) (id := 402) rfl rfl rfl rfl mk81 trivial ?_
           refine ol_nil (to_k0 (fun _ _ h => h) (hK48 _ _ ⟨.inr (by repeat' first | exact subH_nil | refine subH_same rfl ?_ | (refine subH_blk rfl (by repeat' first | exact sub_nil | refine sub_cons rfl ?_) ?_)), ⟨.inl (by kernel_rfl), trivial⟩⟩ ?_))
           clear hK48
           refine aq_done (by kernel_rfl) ?_
           refine (to_k0 (fun _ _ h => h) (hK45 _ _ _ _ _ ?_))
           clear hK45
           refine wp_seq' fun K49 hK49 => ?_
           refine wp_reg ?_
           refine ol_r (r_assign rfl) rfl ?_
           refine ol_nil (to_k0 (fun _ _ h => h) (hK49 _ _ _ _ _ ?_))
           clear hK49
           refine hQ.ret (rvs1 (rv_t rfl)) (fun _ _ h => h) fun w hb hs hB hkd => ?_
           have h0 := addR_0 (has := (pO D nm).isSome) (len := D.length) (zs := zs) (cs := cs) (show nameB nm = true by simpa using hc13) hc17 (by simpa using hc26) (by simpa using hc36) (by omega)
           refine ⟨by rw [h0], hb, ?_, hB, hkd⟩
           rw [h0, if_pos rfl]
           rw [heq] at hs
           simp only [Nat.zero_add, List.nil_append] at hs
           have h3 := (hs.rekey (i := 65) (j := 404) rfl (by decide)).rekey (i := 90) (j := 1500 + es.length) rfl (by omega)
           refine ⟨a82, k - 0 + 1 + (nn - k), c82, a92, c92, h3.sub ?_⟩
           refine subH_blk ((look_cons_ne _ _ (by omega)).trans rfl) (sub_cons rfl (sub_cons rfl (sub_cons rfl sub_nil))) (subH_same ?_ (subH_same ?_ (subH_same ?_ (subH_snoc (fun j x hj => ?_) (look_cons_eq _ _ _)))))
           · exact (look_cons_ne _ _ (by omega)).trans rfl
           · exact (look_cons_ne _ _ (by omega)).trans rfl
           · exact (look_cons_ne _ _ (by omega)).trans rfl
           · have hjl := (List.getElem?_eq_some_iff.1 hj).1
             simp only [List.cons_append, List.nil_append]
             repeat' refine (look_cons_ne _ _ (by omega)).trans ?_
             exact look_tailE hj
         ·refine ol_bs1 74 rfl rfl rw49 rfl rfl rfl fun a74 => ?_
          refine ol_nil (to_k0 (fun _ _ h => h) (hK39 _ _ ⟨.inr (by repeat' first | exact subH_nil | refine subH_same rfl ?_ | (refine subH_blk rfl (by repeat' first | exact sub_nil | refine sub_cons rfl ?_) ?_)), ⟨.inr (by repeat' first | exact subH_nil | refine subH_same rfl ?_ | (refine subH_blk rfl (by repeat' first | exact sub_nil | refine sub_cons rfl ?_) ?_)), trivial⟩⟩ ?_))
          clear hK39
          refine aq_one (i := 1) (by kernel_rfl) rfl fun K40 hK40 => ?_
          refine ol_bs0 65 rw49 rfl fun b65 => ?_
          refine ol_nil (to_k0 (fun _ _ h => h) (hK40 _ _ ⟨.inr (by repeat' first | exact subH_nil | refine subH_same rfl ?_ | (refine subH_blk rfl (by repeat' first | exact sub_nil | refine sub_cons rfl ?_) ?_)), ⟨.inr (by repeat' first | exact subH_nil | refine subH_same rfl ?_ | (refine subH_blk rfl (by repeat' first | exact sub_nil | refine sub_cons rfl ?_) ?_)), trivial⟩⟩ ?_))
          clear hK40
          refine aq_one (i := 8) (by kernel_rfl) rfl fun K41 hK41 => ?_
          refine ol_appendRW (id := 65) (xs := []) encStr (fun w1 hb1 hs1 hB1 => (Sat.rd hs1 (E := encStr) (id := 404) rfl rfl).partAt e1 (by omega) (by omega)) rfl rfl rfl rfl rw49 (by omega) rfl fun a72 c72 => ?_
          refine ol_nil (to_k0 (fun _ _ h => h) (hK41 _ _ ⟨.inr (by repeat' first | exact subH_nil | refine subH_same rfl ?_ | (refine subH_blk rfl (by repeat' first | exact sub_nil | refine sub_cons rfl ?_) ?_)), ⟨.inr (by repeat' first | exact subH_nil | refine subH_same rfl ?_ | (refine subH_blk rfl (by repeat' first | exact sub_nil | refine sub_cons rfl ?_) ?_)), trivial⟩⟩ ?_))
          clear hK41
          refine aq_one (i := 11) (by kernel_rfl) rfl fun K42 hK42 => ?_
          refine ol_append1 (id := 65) (id2 := 74) rfl rfl rfl rfl rfl rw49 (by omega) rfl fun a75 c75 => ?_
          refine ol_nil (to_k0 (fun _ _ h => h) (hK42 _ _ ⟨.inr (by repeat' first | exact subH_nil | refine subH_same rfl ?_ | (refine subH_blk rfl (by repeat' first | exact sub_nil | refine sub_cons rfl ?_) ?_)), ⟨.inr (by repeat' first | exact subH_nil | refine subH_same rfl ?_ | (refine subH_blk rfl (by repeat' first | exact sub_nil | refine sub_cons rfl ?_) ?_)), trivial⟩⟩ ?_))
          clear hK42
          refine aq_one (i := 18) (by kernel_rfl) rfl fun K43 hK43 => ?_
          refine ol_appendRW (id := 65) (xs := [] ++ (names.drop 0).take (k - 0) ++ [nm]) encStr (fun w1 hb1 hs1 hB1 => (Sat.rd hs1 (E := encStr) (id := 404) rfl rfl).partAt e2 (by omega) (by omega)) rfl (by rw [show encStr.enc ([] ++ (names.drop 0).take (k - 0) ++ [nm]) = encStr.enc ([] ++ (names.drop 0).take (k - 0)) ++ [Value.string nm] from Enc.enc_append _ _ _]; rfl) rfl rfl rw49 (by omega) rfl fun a82 c82 => ?_
          refine ol_nil (to_k0 (fun _ _ h => h) (hK43 _ _ ⟨.inr (by repeat' first | exact subH_nil | refine subH_same rfl ?_ | (refine subH_blk rfl (by repeat' first | exact sub_nil | refine sub_cons rfl ?_) ?_)), ⟨.inr (by repeat' first | exact subH_nil | refine subH_same rfl ?_ | (refine subH_blk rfl (by repeat' first | exact sub_nil | refine sub_cons rfl ?_) ?_)), trivial⟩⟩ ?_))
          clear hK43
          refine aq_r 19 999 rfl (by kernel_rfl) (by kernel_rfl) (by kernel_rfl) (.head _) (by kernel_rfl) (by kernel_rfl) rfl (r_nilS rfl (rfl)) ?_
          refine aq_r 20 999 rfl (by kernel_rfl) (by kernel_rfl) (by kernel_rfl) (.head _) (by kernel_rfl) (by kernel_rfl) rfl (r_fa (o' := 1) rfl fl130_1 rfl) ?_
          refine aq_one (i := 21) (by kernel_rfl) rfl fun K44 hK44 => ?_
          refine ol_store (id := 401) rfl rfl rfl rfl sz49 rfl rfl (by first | decide | exact Nat.zero_lt_succ _ | simp) ?_
          refine ol_nil (to_k0 (fun _ _ h => h) (hK44 _ _ ⟨.inr (by repeat' first | exact subH_nil | refine subH_same rfl ?_ | (refine subH_blk rfl (by repeat' first | exact sub_nil | refine sub_cons rfl ?_) ?_)), ⟨.inl (by kernel_rfl), trivial⟩⟩ ?_))
          clear hK44
          refine aq_done (by kernel_rfl) ?_
          refine (to_k0 (fun _ _ h => h) (hK38 _ _ _ _ _ ?_))
          clear hK38
          refine wp_seq' fun K45 hK45 => ?_
          refine wp_rega [(999, [(20, _), (65, _), (74, _), (401, _), (403, _), (404, _)]), (8, [(402, _)])] (by kernel_rfl) ⟨.inr (subH_same rfl (subH_same rfl (subH_same rfl (subH_same rfl (subH_same rfl (subH_same rfl subH_nil)))))), ⟨.inr (subH_same rfl subH_nil), trivial⟩⟩ ?_
          refine aq_r 0 999 rfl (by kernel_rfl) (by kernel_rfl) (by kernel_rfl) (.head _) (by kernel_rfl) (by kernel_rfl) rfl (r_move rfl) ?_
          refine aq_r 1 999 rfl (by kernel_rfl) (by kernel_rfl) (by kernel_rfl) (.head _) (by kernel_rfl) (by kernel_rfl) rfl (r_nilS rfl (rfl)) ?_
          refine aq_r 2 999 rfl (by kernel_rfl) (by kernel_rfl) (by kernel_rfl) (.head _) (by kernel_rfl) (by kernel_rfl) rfl (r_fa (o' := 2) rfl fl130_2 rfl) ?_
          refine aq_r 3 999 rfl (by kernel_rfl) (by kernel_rfl) (by kernel_rfl) (.head _) (by kernel_rfl) (by kernel_rfl) rfl (r_ld (id := 401) rfl rfl rfl sc81) ?_
          refine aq_r 4 999 rfl (by kernel_rfl) (by kernel_rfl) (by kernel_rfl) (.head _) (by kernel_rfl) (by kernel_rfl) rfl (r_move rfl) ?_
          refine aq_r 6 999 rfl (by kernel_rfl) (by kernel_rfl) (by kernel_rfl) (.head _) (by kernel_rfl) (by kernel_rfl) rfl (r_move rfl) ?_
          refine aq_one (i := 5) (by kernel_rfl) rfl fun K46 hK46 => ?_
          refine ol_bs0 90 rw38 rfl fun b90 => ?_
          refine ol_nil (to_k0 (fun _ _ h => h) (hK46 _ _ ⟨.inr (by repeat' first | exact subH_nil | refine subH_same rfl ?_ | (refine subH_blk rfl (by repeat' first | exact sub_nil | refine sub_cons rfl ?_) ?_)), ⟨.inr (by repeat' first | exact subH_nil | refine subH_same rfl ?_ | (refine subH_blk rfl (by repeat' first | exact sub_nil | refine sub_cons rfl ?_) ?_)), trivial⟩⟩ ?_))
          clear hK46
          refine aq_one (i := 7) (by kernel_rfl) rfl fun K47 hK47 => ?_
          refine ol_appendR (id := 90) (xs := []) encBest hx rfl rfl rfl rfl rw38 (by omega) rfl fun a92 c92 => ?_
          refine ol_nil (to_k0 (fun _ _ h => h) (hK47 _ _ ⟨.inr (by repeat' first | exact subH_nil | refine subH_same rfl ?_ | (refine subH_blk rfl (by repeat' first | exact sub_nil | refine sub_cons rfl ?_) ?_)), ⟨.inr (by repeat' first | exact subH_nil | refine subH_same rfl ?_ | (refine subH_blk rfl (by repeat' first | exact sub_nil | refine sub_cons rfl ?_) ?_)), trivial⟩⟩ ?_))
          clear hK47
          refine aq_one (i := 8) (by kernel_rfl) rfl fun K48 hK48 => ?_
          refine ol_mapset (K := Value.string) (V := slV) (z := nilS) (k := nm) (v := (a92, 0 + cs.length, c92)) (id := 402) rfl rfl rfl rfl mk81 trivial ?_
          refine ol_nil (to_k0 (fun _ _ h => h) (hK48 _ _ ⟨.inr (by repeat' first | exact subH_nil | refine subH_same rfl ?_ | (refine subH_blk rfl (by repeat' first | exact sub_nil | refine sub_cons rfl ?_) ?_)), ⟨.inl (by kernel_rfl), trivial⟩⟩ ?_))
          clear hK48
          refine aq_done (by kernel_rfl) ?_
          refine (to_k0 (fun _ _ h => h) (hK45 _ _ _ _ _ ?_))
          clear hK45
          refine wp_seq' fun K49 hK49 => ?_
          refine wp_reg ?_
          refine ol_r (r_assign rfl) rfl ?_
          refine ol_nil (to_k0 (fun _ _ h => h) (hK49 _ _ _ _ _ ?_))
          clear hK49
          refine hQ.ret (rvs1 (rv_t rfl)) (fun _ _ h => h) fun w hb hs hB hkd => ?_
          have h0 := addR_0 (has := (pO D nm).isSome) (len := D.length) (zs := zs) (cs := cs) (show nameB nm = true by simpa using hc13) hc17 (by simpa using hc26) (by simpa using hc36) (by omega)
          refine ⟨by rw [h0], hb, ?_, hB, hkd⟩
          rw [h0, if_pos rfl]
          rw [heq] at hs
          simp only [Nat.zero_add, List.nil_append] at hs
          have h3 := (hs.rekey (i := 65) (j := 404) rfl (by decide)).rekey (i := 90) (j := 1500 + es.length) rfl (by omega)
          refine ⟨a82, k - 0 + 1 + (nn - k), c82, a92, c92, h3.sub ?_⟩
          refine subH_blk ((look_cons_ne _ _ (by omega)).trans rfl) (sub_cons rfl (sub_cons rfl (sub_cons rfl sub_nil))) (subH_same ?_ (subH_same ?_ (subH_same ?_ (subH_snoc (fun j x hj => ?_) (look_cons_eq _ _ _)))))
          · exact (look_cons_ne _ _ (by omega)).trans rfl
          · exact (look_cons_ne _ _ (by omega)).trans rfl
          · exact (look_cons_ne _ _ (by omega)).trans rfl
          · have hjl := (List.getElem?_eq_some_iff.1 hj).1
            simp only [List.cons_append, List.nil_append]
            repeat' refine (look_cons_ne _ _ (by omega)).trans ?_
            exact look_tailE hj
end Go.Proofs.Ytafkojlccknicaa
