/-
  LoadMoreIsMore: for all loads, more on one day makes no state less, and changes none ahead of it: the walk of the law.
-/
import Derived.Test.YtamlldedmhkobaaLoad2
namespace Go.Proofs.Ytamlldedmhkobaa
open Go Go.RowKit Hx
set_option linter.unusedVariables false
set_option linter.unusedSimpArgs false

theorem load_told (w : World) : Calls Try.prog 14 #[] w fun e w' => e = .returned (.bool true) ∧ Below w.heap.size w w' := by
  have hS : seriesR [43, 0] 42 1000 = ([2000, 1952], 0) := by decide
  refine enterQ (N := 15) (C := fun _ => True) (H := []) (B := w.heap.size) (args := []) Try.func14 rfl rfl rfl (Nat.le_refl _) (Sat.nil _ _) fun Q hQ => ?_
  refine wp_seq' fun K1 hK1 => ?_
  refine wp_reg ?_
  refine ol_r (r_assign rfl) rfl ?_
  refine ol_nil (to_k0 (fun _ _ h => h) (hK1 _ _ _ _ _ ?_))
  clear hK1
  refine wp_seq' fun K2 hK2 => ?_
  refine wp_reg ?_
  refine ol_bsN 4 rfl rw22 rfl rfl (fun _ => by kernel_rfl) rfl fun a4 => ?_
  refine ol_call rfl rfl cb12 rfl (fun w1 hb1 hs1 hB1 => Calls.mono (load_Series _ _ _ [43, 0] _ _ _ (Sat.rd hs1 (E := encI) (xs := [43, 0]) (id := 4) rfl rfl)) ?_)
  rintro e w2 ⟨a5, n5, c5, rfl, hf5⟩
  refine After.fresh (id := 5) rfl hb1 hs1 hB1 hf5 ?_
  have hl5 := hf5.len; clear hf5 hB1 hs1 hb1 w2 w1
  refine ol_r (r_move rfl) rfl ?_
  refine ol_r (r_extract rfl rfl) rfl ?_
  refine ol_r (r_extract rfl rfl) rfl ?_
  refine ol_r (r_assign rfl) rfl ?_
  refine ol_r (r_assign rfl) rfl ?_
  refine ol_nil (to_k0 (fun _ _ h => h) (hK2 _ _ _ _ _ ?_))
  clear hK2
  refine wp_seq' fun K3 hK3 => ?_
  refine wp_reg ?_
  refine ol_r (r_move rfl) rfl ?_
  refine ol_r (r_eql rfl rfl) rfl ?_
  refine ol_r (r_move rfl) rfl ?_
  refine ol_split (d := 10) rfl (fun hs10 => ?_) (fun hs10 => ?_)
  ·have phs10 := hs10; try simp only [decide_eq_true_eq, decide_eq_false_iff_not, Bool.not_eq_true', Bool.not_eq_false', Bool.not_true, Bool.not_false] at phs10
   refine ol_g rfl rfl hs10 ?_
   refine ol_r (r_move rfl) rfl ?_
   refine ol_g rfl rfl hs10 ?_
   refine ol_bsN 12 rfl rw22 rfl rfl (fun _ => by kernel_rfl) rfl fun a12 => ?_
   refine ol_g rfl rfl hs10 ?_
   refine ol_call rfl rfl cb20 rfl (fun w1 hb1 hs1 hB1 => Calls.mono (equal_int _ _ _ _ _ _ (seriesR [43, 0] 42 1000).1 [2000, 1952] _ (Sat.rd hs1 (id := 5) rfl rfl) (Sat.rd hs1 (E := encI) (xs := [2000, 1952]) (id := 12) rfl rfl)) ?_)
   rintro e w2 ⟨rfl, hb2⟩
   refine After.below rfl hb1 hs1 hB1 hb2 ?_
   clear hb2 hB1 hs1 hb1 w2 w1
   refine ol_r (r_pickT rfl hs10 rfl) rfl ?_
   refine ol_r (r_assign rfl) rfl ?_
   refine ol_nil (to_k0 (fun _ _ h => h) (hK3 _ _ _ _ _ ?_))
   clear hK3
   refine hQ.ret (rvs1 (rv_t rfl)) (fun _ _ h => h) fun w hb hs hB hkd => ?_
   exact ⟨by rw [hS]; rfl, hb⟩
  ·have phs10 := hs10; try simp only [decide_eq_true_eq, decide_eq_false_iff_not, Bool.not_eq_true', Bool.not_eq_false', Bool.not_true, Bool.not_false] at phs10
   refine ol_s rfl rfl hs10 rfl ?_
   refine ol_s rfl rfl hs10 rfl ?_
   refine ol_s rfl rfl hs10 rfl ?_
   refine ol_r (r_pickF rfl hs10 rfl) rfl ?_
   refine ol_r (r_assign rfl) rfl ?_
   refine ol_nil (to_k0 (fun _ _ h => h) (hK3 _ _ _ _ _ ?_))
   clear hK3
   refine hQ.ret (rvs1 (rv_t rfl)) (fun _ _ h => h) fun w hb hs hB hkd => ?_
   exfalso; rw [hS] at phs10; exact phs10 rfl

theorem law_more (a : Option Addr) (n cap : Nat) (xs : List Int) (c f d m : Int) (w : World) (hl : Rd encI w.heap.size w a n cap xs) :
    Calls Try.prog 3 #[.slice a n cap, .int .i64 c, .int .i64 f, .int .i64 d, .int .i64 m] w fun e w' => e = .returned (.bool true) ∧ Below w.heap.size w w' := by
  have hn := hl.len
  have hfit := hl.fit
  refine enterQ (N := 119) (C := fun _ => True) (H := []) (B := w.heap.size) (args := [_, _, _, _, _]) Try.func3 rfl rfl rfl (Nat.le_refl _) (Sat.nil _ _) fun Q hQ => ?_
  refine wp_seq' fun K1 hK1 => ?_
  refine wp_reg ?_
  refine ol_r (r_assign rfl) rfl ?_
  refine ol_nil (to_k0 (fun _ _ h => h) (hK1 _ _ _ _ _ ?_))
  clear hK1
  refine wp_seq' fun K2 hK2 => ?_
  refine wp_reg ?_
  refine ol_r (r_move rfl) rfl ?_
  refine ol_r (r_move rfl) rfl ?_
  refine ol_r (r_move rfl) rfl ?_
  refine ol_call rfl rfl cb12 rfl (fun w1 hb1 hs1 hB1 => Calls.mono (load_Series _ _ _ xs _ _ _ (hl.at hb1 hB1)) ?_)
  rintro e w2 ⟨a22, n22, c22, rfl, hf22⟩
  refine After.fresh (id := 22) rfl hb1 hs1 hB1 hf22 ?_
  have hl22 := hf22.len; clear hf22 hB1 hs1 hb1 w2 w1
  refine ol_r (r_move rfl) rfl ?_
  refine ol_r (r_extract rfl rfl) rfl ?_
  refine ol_r (r_extract rfl rfl) rfl ?_
  refine ol_r (r_assign rfl) rfl ?_
  refine ol_r (r_assign rfl) rfl ?_
  refine ol_nil (to_k0 (fun _ _ h => h) (hK2 _ _ _ _ _ ?_))
  clear hK2
  refine wp_seq' fun K3 hK3 => ?_
  refine wp_seq' fun K4 hK4 => ?_
  refine wp_reg ?_
  refine ol_r (r_move rfl) rfl ?_
  refine ol_r (r_neq rfl rfl) rfl ?_
  refine ol_nil (to_k0 (fun _ _ h => h) (hK4 _ _ _ _ _ ?_))
  clear hK4
  first | refine wp_condD rfl (fun hc26 => ?_) (fun hc26 => ?_) | refine wp_condN rfl (fun hc26 => ?_) (fun hc26 => ?_) | refine wp_condNB rfl (fun hc26 => ?_) (fun hc26 => ?_) | refine wp_cond' rfl (fun hc26 => ?_) (fun hc26 => ?_)
  ·refine wp_seq' fun K5 hK5 => ?_
   refine wp_reg ?_
   refine ol_r (r_move rfl) rfl ?_
   refine ol_r (r_move rfl) rfl ?_
   refine ol_r (r_move rfl) rfl ?_
   refine ol_call rfl rfl cb13 rfl (fun w1 hb1 hs1 hB1 => Calls.mono (ref_Series _ _ _ xs _ _ _ (hl.at hb1 hB1)) ?_)
   rintro e w2 ⟨a31, n31, c31, rfl, hf31⟩
   refine After.fresh (id := 31) rfl hb1 hs1 hB1 hf31 ?_
   have hl31 := hf31.len; clear hf31 hB1 hs1 hb1 w2 w1
   refine ol_r (r_move rfl) rfl ?_
   refine ol_r (r_extract rfl rfl) rfl ?_
   refine ol_r (r_extract rfl rfl) rfl ?_
   refine ol_r (r_assign rfl) rfl ?_
   refine ol_r (r_assign rfl) rfl ?_
   refine ol_nil (to_k0 (fun _ _ h => h) (hK5 _ _ _ _ _ ?_))
   clear hK5
   refine wp_seq' fun K6 hK6 => ?_
   refine wp_reg ?_
   refine ol_r (r_move rfl) rfl ?_
   refine ol_r (r_move rfl) rfl ?_
   refine ol_r (r_eql rfl rfl) rfl ?_
   refine ol_r (r_move rfl) rfl ?_
   refine ol_split (d := 37) rfl (fun hs37 => ?_) (fun hs37 => ?_)
   ·have phs37 := hs37; try simp only [decide_eq_true_eq, decide_eq_false_iff_not, Bool.not_eq_true', Bool.not_eq_false', Bool.not_true, Bool.not_false] at phs37
    refine ol_g rfl rfl hs37 ?_
    refine ol_call rfl rfl cb14 rfl (fun w1 hb1 hs1 hB1 => Calls.mono (load_told _) ?_)
    rintro e w2 ⟨rfl, hb2⟩
    refine After.below rfl hb1 hs1 hB1 hb2 ?_
    clear hb2 hB1 hs1 hb1 w2 w1
    refine ol_r (r_pickT rfl hs37 rfl) rfl ?_
    refine ol_r (r_assign rfl) rfl ?_
    refine ol_nil (to_k0 (fun _ _ h => h) (hK6 _ _ _ _ _ ?_))
    clear hK6
    refine hQ.ret (rvs1 (rv_t rfl)) (fun _ _ h => h) fun w hb hs hB hkd => ?_
    first
      | exact ⟨rfl, hb⟩
      | (exfalso; exact phs37 trivial)
      | (exfalso; refine phs80 ?_; rw [hB2]; done)
      | (exfalso; omega)
      | (exfalso; rw [hB2] at hx94; rw [hsc] at hx98; subst hx66e; have := more_ge (inB_iff.1 hS.2.2.1).1 hx66 (Int.not_lt.1 phs52) hx94 hx98; omega)
      | (exfalso; rw [hB2] at hx108; rw [hsc] at hx112; refine hc116 (more_same ?_ hx108 hx112); omega)
   ·have phs37 := hs37; try simp only [decide_eq_true_eq, decide_eq_false_iff_not, Bool.not_eq_true', Bool.not_eq_false', Bool.not_true, Bool.not_false] at phs37
    refine ol_s rfl rfl hs37 rfl ?_
    refine ol_r (r_pickF rfl hs37 rfl) rfl ?_
    refine ol_r (r_assign rfl) rfl ?_
    refine ol_nil (to_k0 (fun _ _ h => h) (hK6 _ _ _ _ _ ?_))
    clear hK6
    refine hQ.ret (rvs1 (rv_t rfl)) (fun _ _ h => h) fun w hb hs hB hkd => ?_
    first
      | exact ⟨rfl, hb⟩
      | (exfalso; exact phs37 trivial)
      | (exfalso; refine phs80 ?_; rw [hB2]; done)
      | (exfalso; omega)
      | (exfalso; rw [hB2] at hx94; rw [hsc] at hx98; subst hx66e; have := more_ge (inB_iff.1 hS.2.2.1).1 hx66 (Int.not_lt.1 phs52) hx94 hx98; omega)
      | (exfalso; rw [hB2] at hx108; rw [hsc] at hx112; refine hc116 (more_same ?_ hx108 hx112); omega)
  ·refine wp_skip' (to_k0 (fun _ _ h => h) (hK3 _ _ _ _ _ ?_))
   clear hK3
   refine wp_seq' fun K7 hK7 => ?_
   refine wp_seq' fun K8 hK8 => ?_
   refine wp_reg ?_
   refine ol_r (r_move rfl) rfl ?_
   refine ol_r (r_lss rfl rfl) rfl ?_
   refine ol_r (r_move rfl) rfl ?_
   refine ol_split (d := 42) rfl (fun hs42 => ?_) (fun hs42 => ?_)
   ·have phs42 := hs42; try simp only [decide_eq_true_eq, decide_eq_false_iff_not, Bool.not_eq_true', Bool.not_eq_false', Bool.not_true, Bool.not_false] at phs42
    refine ol_s rfl rfl hs42 rfl ?_
    refine ol_s rfl rfl hs42 rfl ?_
    refine ol_s rfl rfl hs42 rfl ?_
    refine ol_s rfl rfl hs42 rfl ?_
    refine ol_r (r_pickT rfl hs42 rfl) rfl ?_
    refine ol_r (r_move rfl) rfl ?_
    refine ol_s rfl rfl rfl rfl ?_
    refine ol_s rfl rfl rfl rfl ?_
    refine ol_r (r_pickT rfl rfl rfl) rfl ?_
    refine ol_r (r_move rfl) rfl ?_
    refine ol_s rfl rfl rfl rfl ?_
    refine ol_s rfl rfl rfl rfl ?_
    refine ol_s rfl rfl rfl rfl ?_
    refine ol_s rfl rfl rfl rfl ?_
    refine ol_s rfl rfl rfl rfl ?_
    refine ol_s rfl rfl rfl rfl ?_
    refine ol_s rfl rfl rfl rfl ?_
    refine ol_r (r_pickT rfl rfl rfl) rfl ?_
    refine ol_nil (to_k0 (fun _ _ h => h) (hK8 _ _ _ _ _ ?_))
    clear hK8
    refine wp_condT rfl ?_
    refine wp_seq' fun K9 hK9 => ?_
    refine wp_reg ?_
    refine ol_call rfl rfl cb14 rfl (fun w1 hb1 hs1 hB1 => Calls.mono (load_told _) ?_)
    rintro e w2 ⟨rfl, hb2⟩
    refine After.below rfl hb1 hs1 hB1 hb2 ?_
    clear hb2 hB1 hs1 hb1 w2 w1
    refine ol_r (r_assign rfl) rfl ?_
    refine ol_nil (to_k0 (fun _ _ h => h) (hK9 _ _ _ _ _ ?_))
    clear hK9
    refine hQ.ret (rvs1 (rv_t rfl)) (fun _ _ h => h) fun w hb hs hB hkd => ?_
    first
      | exact ⟨rfl, hb⟩
      | (exfalso; exact phs37 trivial)
      | (exfalso; refine phs80 ?_; rw [hB2]; done)
      | (exfalso; omega)
      | (exfalso; rw [hB2] at hx94; rw [hsc] at hx98; subst hx66e; have := more_ge (inB_iff.1 hS.2.2.1).1 hx66 (Int.not_lt.1 phs52) hx94 hx98; omega)
      | (exfalso; rw [hB2] at hx108; rw [hsc] at hx112; refine hc116 (more_same ?_ hx108 hx112); omega)
   ·have phs42 := hs42; try simp only [decide_eq_true_eq, decide_eq_false_iff_not, Bool.not_eq_true', Bool.not_eq_false', Bool.not_true, Bool.not_false] at phs42
    refine ol_g rfl rfl hs42 ?_
    refine ol_r (r_move rfl) rfl ?_
    refine ol_g rfl rfl hs42 ?_
    refine ol_r (r_move rfl) rfl ?_
    refine ol_g rfl rfl hs42 ?_
    refine ol_r (r_len rfl sl22) rfl ?_
    refine ol_g rfl rfl hs42 ?_
    refine ol_r (r_geq rfl rfl) rfl ?_
    refine ol_r (r_pickF rfl hs42 rfl) rfl ?_
    refine ol_r (r_move rfl) rfl ?_
    refine ol_split (d := 48) rfl (fun hs48 => ?_) (fun hs48 => ?_)
    ·have phs48 := hs48; try simp only [decide_eq_true_eq, decide_eq_false_iff_not, Bool.not_eq_true', Bool.not_eq_false', Bool.not_true, Bool.not_false] at phs48
     refine ol_s rfl rfl hs48 rfl ?_
     refine ol_s rfl rfl hs48 rfl ?_
     refine ol_r (r_pickT rfl hs48 rfl) rfl ?_
     refine ol_r (r_move rfl) rfl ?_
     refine ol_s rfl rfl rfl rfl ?_
     refine ol_s rfl rfl rfl rfl ?_
     refine ol_s rfl rfl rfl rfl ?_
     refine ol_s rfl rfl rfl rfl ?_
     refine ol_s rfl rfl rfl rfl ?_
     refine ol_s rfl rfl rfl rfl ?_
     refine ol_s rfl rfl rfl rfl ?_
     refine ol_r (r_pickT rfl rfl rfl) rfl ?_
     refine ol_nil (to_k0 (fun _ _ h => h) (hK8 _ _ _ _ _ ?_))
     clear hK8
     refine wp_condT rfl ?_
     refine wp_seq' fun K10 hK10 => ?_
     refine wp_reg ?_
     refine ol_call rfl rfl cb14 rfl (fun w1 hb1 hs1 hB1 => Calls.mono (load_told _) ?_)
     rintro e w2 ⟨rfl, hb2⟩
     refine After.below rfl hb1 hs1 hB1 hb2 ?_
     clear hb2 hB1 hs1 hb1 w2 w1
     refine ol_r (r_assign rfl) rfl ?_
     refine ol_nil (to_k0 (fun _ _ h => h) (hK10 _ _ _ _ _ ?_))
     clear hK10
     refine hQ.ret (rvs1 (rv_t rfl)) (fun _ _ h => h) fun w hb hs hB hkd => ?_
     first
       | exact ⟨rfl, hb⟩
       | (exfalso; exact phs37 trivial)
       | (exfalso; refine phs80 ?_; rw [hB2]; done)
       | (exfalso; omega)
       | (exfalso; rw [hB2] at hx94; rw [hsc] at hx98; subst hx66e; have := more_ge (inB_iff.1 hS.2.2.1).1 hx66 (Int.not_lt.1 phs52) hx94 hx98; omega)
       | (exfalso; rw [hB2] at hx108; rw [hsc] at hx112; refine hc116 (more_same ?_ hx108 hx112); omega)
    ·have phs48 := hs48; try simp only [decide_eq_true_eq, decide_eq_false_iff_not, Bool.not_eq_true', Bool.not_eq_false', Bool.not_true, Bool.not_false] at phs48
     refine ol_g rfl rfl hs48 ?_
     refine ol_r (r_move rfl) rfl ?_
     refine ol_g rfl rfl hs48 ?_
     refine ol_r (r_lss rfl rfl) rfl ?_
     refine ol_r (r_pickF rfl hs48 rfl) rfl ?_
     refine ol_r (r_move rfl) rfl ?_
     refine ol_split (d := 52) rfl (fun hs52 => ?_) (fun hs52 => ?_)
     ·have phs52 := hs52; try simp only [decide_eq_true_eq, decide_eq_false_iff_not, Bool.not_eq_true', Bool.not_eq_false', Bool.not_true, Bool.not_false] at phs52
      refine ol_s rfl rfl hs52 rfl ?_
      refine ol_s rfl rfl hs52 rfl ?_
      refine ol_s rfl rfl hs52 rfl ?_
      refine ol_s rfl rfl hs52 rfl ?_
      refine ol_s rfl rfl hs52 rfl ?_
      refine ol_s rfl rfl hs52 rfl ?_
      refine ol_s rfl rfl hs52 rfl ?_
      refine ol_r (r_pickT rfl hs52 rfl) rfl ?_
      refine ol_nil (to_k0 (fun _ _ h => h) (hK8 _ _ _ _ _ ?_))
      clear hK8
      refine wp_condT rfl ?_
      refine wp_seq' fun K11 hK11 => ?_
      refine wp_reg ?_
      refine ol_call rfl rfl cb14 rfl (fun w1 hb1 hs1 hB1 => Calls.mono (load_told _) ?_)
      rintro e w2 ⟨rfl, hb2⟩
      refine After.below rfl hb1 hs1 hB1 hb2 ?_
      clear hb2 hB1 hs1 hb1 w2 w1
      refine ol_r (r_assign rfl) rfl ?_
      refine ol_nil (to_k0 (fun _ _ h => h) (hK11 _ _ _ _ _ ?_))
      clear hK11
      refine hQ.ret (rvs1 (rv_t rfl)) (fun _ _ h => h) fun w hb hs hB hkd => ?_
      first
        | exact ⟨rfl, hb⟩
        | (exfalso; exact phs37 trivial)
        | (exfalso; refine phs80 ?_; rw [hB2]; done)
        | (exfalso; omega)
        | (exfalso; rw [hB2] at hx94; rw [hsc] at hx98; subst hx66e; have := more_ge (inB_iff.1 hS.2.2.1).1 hx66 (Int.not_lt.1 phs52) hx94 hx98; omega)
        | (exfalso; rw [hB2] at hx108; rw [hsc] at hx112; refine hc116 (more_same ?_ hx108 hx112); omega)
     ·have phs52 := hs52; try simp only [decide_eq_true_eq, decide_eq_false_iff_not, Bool.not_eq_true', Bool.not_eq_false', Bool.not_true, Bool.not_false] at phs52
      refine ol_g rfl rfl hs52 ?_
      refine ol_r (r_move rfl) rfl ?_
      refine ol_g rfl rfl hs52 ?_
      refine ol_r (r_move rfl) rfl ?_
      refine ol_g rfl rfl hs52 ?_
      refine ol_r (r_move rfl) rfl ?_
      refine ol_g rfl rfl hs52 ?_
      refine ol_ixr hl rfl rfl sl22 (by omega) rfl fun x56 hx56 => ?_
      try simp only [Int.toNat_natCast] at hx56
      refine ol_g rfl rfl hs52 ?_
      have hS := seriesR_inv (Decidable.not_not.1 hc26)
      have hx56r := inB_iff.1 (List.all_eq_true.1 hS.2.2.2.1 _ (List.mem_of_getElem? hx56))
      refine ol_r (r_ldw rfl (fun w1 hb1 hs1 hB1 => show Loads _ _ _ _ (.int .i64 x56) from Rd.loads hl ty3 hx56 hb1)) rfl ?_
      refine ol_g rfl rfl hs52 ?_
      refine ol_r (r_sub rfl rfl (by omega)) rfl ?_
      refine ol_g rfl rfl hs52 ?_
      refine ol_r (r_gtr rfl rfl) rfl ?_
      refine ol_r (r_pickF rfl hs52 rfl) rfl ?_
      refine ol_nil (to_k0 (fun _ _ h => h) (hK8 _ _ _ _ _ ?_))
      clear hK8
      first | refine wp_condD rfl (fun hc60 => ?_) (fun hc60 => ?_) | refine wp_condN rfl (fun hc60 => ?_) (fun hc60 => ?_) | refine wp_condNB rfl (fun hc60 => ?_) (fun hc60 => ?_) | refine wp_cond' rfl (fun hc60 => ?_) (fun hc60 => ?_)
      ·refine wp_seq' fun K12 hK12 => ?_
       refine wp_reg ?_
       refine ol_call rfl rfl cb14 rfl (fun w1 hb1 hs1 hB1 => Calls.mono (load_told _) ?_)
       rintro e w2 ⟨rfl, hb2⟩
       refine After.below rfl hb1 hs1 hB1 hb2 ?_
       clear hb2 hB1 hs1 hb1 w2 w1
       refine ol_r (r_assign rfl) rfl ?_
       refine ol_nil (to_k0 (fun _ _ h => h) (hK12 _ _ _ _ _ ?_))
       clear hK12
       refine hQ.ret (rvs1 (rv_t rfl)) (fun _ _ h => h) fun w hb hs hB hkd => ?_
       first
         | exact ⟨rfl, hb⟩
         | (exfalso; exact phs37 trivial)
         | (exfalso; refine phs80 ?_; rw [hB2]; done)
         | (exfalso; omega)
         | (exfalso; rw [hB2] at hx94; rw [hsc] at hx98; subst hx66e; have := more_ge (inB_iff.1 hS.2.2.1).1 hx66 (Int.not_lt.1 phs52) hx94 hx98; omega)
         | (exfalso; rw [hB2] at hx108; rw [hsc] at hx112; refine hc116 (more_same ?_ hx108 hx112); omega)
      ·refine wp_skip' (to_k0 (fun _ _ h => h) (hK7 _ _ _ _ _ ?_))
       clear hK7
       refine wp_seq' fun K13 hK13 => ?_
       refine wp_reg ?_
       have hlen : xs.length ≤ 5000 := by omega
       have hsc : (seriesR xs c f).1 = scanM c f xs := by rw [hS.2.2.2.2]
       have hn22 : n22 = n := by rw [← hl22, hsc, scanM_len]; exact hn
       refine ol_r (r_move rfl) rfl ?_
       refine ol_call rfl rfl cb15 rfl (fun w1 hb1 hs1 hB1 => Calls.mono (clone_int _ _ _ xs _ (hl.at hb1 hB1) (by omega)) ?_)
       rintro e w2 ⟨a63, n63, c63, rfl, hf63⟩
       refine After.fresh (id := 63) rfl hb1 hs1 hB1 hf63 ?_
       have hl63 := hf63.len; clear hf63 hB1 hs1 hb1 w2 w1
       refine ol_r (r_assign rfl) rfl ?_
       refine ol_nil (to_k0 (fun _ _ h => h) (hK13 _ _ _ _ _ ?_))
       clear hK13
       refine wp_seq' fun K14 hK14 => ?_
       refine wp_reg ?_
       refine ol_r (r_move rfl) rfl ?_
       refine ol_r (r_move rfl) rfl ?_
       refine ol_ixo (id := 63) encI _ rfl rfl rfl rfl sl22 (by omega) rfl fun x66 hx66 => ?_
       try simp only [Int.toNat_natCast] at hx66
       try simp only [Int.toNat_natCast] at hx66
       have hx66e : x66 = x56 := by rw [hx56] at hx66; cases hx66; rfl
       refine ol_r (r_ldw rfl (fun w1 hb1 hs1 hB1 => show Loads _ _ _ _ (.int .i64 x66) from ld_own (id := 63) hs1 rfl rfl ty3 hx66)) rfl ?_
       refine ol_r (r_move rfl) rfl ?_
       refine ol_r (r_add rfl rfl (by omega)) rfl ?_
       refine ol_ixo (id := 63) encI _ rfl rfl rfl rfl sl22 (by omega) rfl fun x70 hx70 => ?_
       try simp only [Int.toNat_natCast] at hx70
       try simp only [Int.toNat_natCast] at hx70
       refine ol_storeRow (id := 63) _ _ _ rfl rfl rfl rfl sz3 (by omega) ?_
       refine ol_nil (to_k0 (fun _ _ h => h) (hK14 _ _ _ _ _ ?_))
       clear hK14
       refine wp_seq' fun K15 hK15 => ?_
       refine wp_reg ?_
       have hB2 : seriesR (xs.set d.toNat (x66 + m)) c f = (scanM c f (xs.set d.toNat (x66 + m)), 0) := seriesR_intro (by rw [List.length_set]; omega) hS.2.1 hS.2.2.1 (all_set hS.2.2.2.1 (inB_iff.2 (by omega)))
       refine ol_r (r_move rfl) rfl ?_
       refine ol_r (r_move rfl) rfl ?_
       refine ol_r (r_move rfl) rfl ?_
       refine ol_call rfl rfl cb12 rfl (fun w1 hb1 hs1 hB1 => Calls.mono (load_Series _ _ _ (xs.set d.toNat (x66 + m)) _ _ _ (Sat.rd hs1 (id := 63) rfl rfl)) ?_)
       rintro e w2 ⟨a75, n75, c75, rfl, hf75⟩
       refine After.fresh (id := 75) rfl hb1 hs1 hB1 hf75 ?_
       have hl75 := hf75.len; clear hf75 hB1 hs1 hb1 w2 w1
       refine ol_r (r_move rfl) rfl ?_
       have hn75 : n75 = n := by rw [← hl75, hB2, scanM_len, List.length_set]; exact hn
       refine ol_r (r_extract rfl rfl) rfl ?_
       refine ol_r (r_extract rfl rfl) rfl ?_
       refine ol_r (r_assign rfl) rfl ?_
       refine ol_r (r_assign rfl) rfl ?_
       refine ol_nil (to_k0 (fun _ _ h => h) (hK15 _ _ _ _ _ ?_))
       clear hK15
       refine wp_seq' fun K16 hK16 => ?_
       refine wp_seq' fun K17 hK17 => ?_
       refine wp_reg ?_
       refine ol_r (r_move rfl) rfl ?_
       refine ol_r (r_neq rfl rfl) rfl ?_
       refine ol_r (r_move rfl) rfl ?_
       refine ol_split (d := 80) rfl (fun hs80 => ?_) (fun hs80 => ?_)
       ·have phs80 := hs80; try simp only [decide_eq_true_eq, decide_eq_false_iff_not, Bool.not_eq_true', Bool.not_eq_false', Bool.not_true, Bool.not_false] at phs80
        refine ol_s rfl rfl hs80 rfl ?_
        refine ol_s rfl rfl hs80 rfl ?_
        refine ol_s rfl rfl hs80 rfl ?_
        refine ol_s rfl rfl hs80 rfl ?_
        refine ol_s rfl rfl hs80 rfl ?_
        refine ol_r (r_pickT rfl hs80 rfl) rfl ?_
        refine ol_nil (to_k0 (fun _ _ h => h) (hK17 _ _ _ _ _ ?_))
        clear hK17
        refine wp_condT rfl ?_
        refine wp_seq' fun K18 hK18 => ?_
        refine wp_reg ?_
        refine ol_r (r_assign rfl) rfl ?_
        refine ol_nil (to_k0 (fun _ _ h => h) (hK18 _ _ _ _ _ ?_))
        clear hK18
        refine hQ.ret (rvs1 (rv_t rfl)) (fun _ _ h => h) fun w hb hs hB hkd => ?_
        first
          | exact ⟨rfl, hb⟩
          | (exfalso; exact phs37 trivial)
          | (exfalso; refine phs80 ?_; rw [hB2]; done)
          | (exfalso; omega)
          | (exfalso; rw [hB2] at hx94; rw [hsc] at hx98; subst hx66e; have := more_ge (inB_iff.1 hS.2.2.1).1 hx66 (Int.not_lt.1 phs52) hx94 hx98; omega)
          | (exfalso; rw [hB2] at hx108; rw [hsc] at hx112; refine hc116 (more_same ?_ hx108 hx112); omega)
       ·have phs80 := hs80; try simp only [decide_eq_true_eq, decide_eq_false_iff_not, Bool.not_eq_true', Bool.not_eq_false', Bool.not_true, Bool.not_false] at phs80
        refine ol_g rfl rfl hs80 ?_
        refine ol_r (r_move rfl) rfl ?_
        refine ol_g rfl rfl hs80 ?_
        refine ol_r (r_len rfl sl22) rfl ?_
        refine ol_g rfl rfl hs80 ?_
        refine ol_r (r_move rfl) rfl ?_
        refine ol_g rfl rfl hs80 ?_
        refine ol_r (r_len rfl sl22) rfl ?_
        refine ol_g rfl rfl hs80 ?_
        refine ol_r (r_neq rfl rfl) rfl ?_
        refine ol_r (r_pickF rfl hs80 rfl) rfl ?_
        refine ol_nil (to_k0 (fun _ _ h => h) (hK17 _ _ _ _ _ ?_))
        clear hK17
        first | refine wp_condD rfl (fun hc86 => ?_) (fun hc86 => ?_) | refine wp_condN rfl (fun hc86 => ?_) (fun hc86 => ?_) | refine wp_condNB rfl (fun hc86 => ?_) (fun hc86 => ?_) | refine wp_cond' rfl (fun hc86 => ?_) (fun hc86 => ?_)
        ·refine wp_seq' fun K19 hK19 => ?_
         refine wp_reg ?_
         refine ol_r (r_assign rfl) rfl ?_
         refine ol_nil (to_k0 (fun _ _ h => h) (hK19 _ _ _ _ _ ?_))
         clear hK19
         refine hQ.ret (rvs1 (rv_t rfl)) (fun _ _ h => h) fun w hb hs hB hkd => ?_
         first
           | exact ⟨rfl, hb⟩
           | (exfalso; exact phs37 trivial)
           | (exfalso; refine phs80 ?_; rw [hB2]; done)
           | (exfalso; omega)
           | (exfalso; rw [hB2] at hx94; rw [hsc] at hx98; subst hx66e; have := more_ge (inB_iff.1 hS.2.2.1).1 hx66 (Int.not_lt.1 phs52) hx94 hx98; omega)
           | (exfalso; rw [hB2] at hx108; rw [hsc] at hx112; refine hc116 (more_same ?_ hx108 hx112); omega)
        ·refine wp_skip' (to_k0 (fun _ _ h => h) (hK16 _ _ _ _ _ ?_))
         clear hK16
         refine wp_seq' fun K20 hK20 => ?_
         refine wp_seq' fun K21 hK21 => ?_
         refine wp_reg ?_
         refine ol_r (r_move rfl) rfl ?_
         refine ol_r (r_len rfl sl22) rfl ?_
         refine ol_r (r_move rfl) rfl ?_
         refine ol_nil (to_k0 (fun _ _ h => h) (hK21 _ _ _ _ _ ?_))
         clear hK21
         refine wp_block' ?_
         apply wp_loopM (σ := Nat) (fun s => s ≤ n22) (fun s => [(89, .int .i64 s)]) [(3, _), (11, _), (16, _), (88, _)] (fun s => []) [(22, _), (63, _), (75, _)] (fun s => n22 - s) (0)
         ·try dsimp only
          simp
         ·exact (sub_cons rfl sub_nil)
         ·exact (sub_cons rfl (sub_cons rfl (sub_cons rfl (sub_cons rfl sub_nil))))
         ·exact subH_nil
         ·exact (subH_same rfl (subH_same rfl (subH_same rfl subH_nil)))
         ·intro k hk
          intro K22 hK22
          refine wp_seq' fun K23 hK23 => ?_
          refine wp_reg ?_
          refine ol_r (r_lss rfl rfl) rfl ?_
          refine ol_nil (to_k0 (fun _ _ h => h) (hK23 _ _ _ _ _ ?_))
          clear hK23
          refine wp_seq' fun K24 hK24 => ?_
          first | refine wp_condD rfl (fun hc90 => ?_) (fun hc90 => ?_) | refine wp_condN rfl (fun hc90 => ?_) (fun hc90 => ?_) | refine wp_condNB rfl (fun hc90 => ?_) (fun hc90 => ?_) | refine wp_cond' rfl (fun hc90 => ?_) (fun hc90 => ?_)
          ·refine wp_skip' (to_k0 (fun _ _ h => h) (hK24 _ _ _ _ _ ?_))
           clear hK24
           refine wp_seq' fun K25 hK25 => ?_
           refine wp_block' ?_
           refine wp_seq' fun K26 hK26 => ?_
           refine wp_reg ?_
           refine ol_r (r_move rfl) rfl ?_
           refine ol_r (r_assign rfl) rfl ?_
           refine ol_nil (to_k0 (fun _ _ h => h) (hK26 _ _ _ _ _ ?_))
           clear hK26
           refine wp_seq' fun K27 hK27 => ?_
           refine wp_regq (by kernel_rfl) (by kernel_rfl) ?_
           refine ql_r (r_move rfl) rfl ?_
           refine ql_r (r_move rfl) rfl ?_
           refine ql_ixo (id := 75) encI _ rfl rfl rfl rfl sl22 (by omega) (by omega) rfl fun x94 hx94 => ?_
           try simp only [Int.toNat_natCast] at hx94
           try simp only [Int.toNat_natCast] at hx94
           refine ql_r (r_ldw rfl (fun w1 hb1 hs1 hB1 => show Loads _ _ _ _ (.int .i64 x94) from ld_own (id := 75) hs1 rfl rfl ty3 hx94)) rfl ?_
           refine ql_r (r_move rfl) rfl ?_
           refine ql_r (r_move rfl) rfl ?_
           refine ql_ixo (id := 22) encI _ rfl rfl rfl rfl sl22 (by omega) (by omega) rfl fun x98 hx98 => ?_
           try simp only [Int.toNat_natCast] at hx98
           try simp only [Int.toNat_natCast] at hx98
           refine ql_r (r_ldw rfl (fun w1 hb1 hs1 hB1 => show Loads _ _ _ _ (.int .i64 x98) from ld_own (id := 22) hs1 rfl rfl ty3 hx98)) rfl ?_
           refine ql_r (r_lss rfl rfl) rfl ?_
           refine ql_r (r_move rfl) rfl ?_
           refine ql_split (d := 101) rfl (fun hs101 => ?_) (fun hs101 => ?_)
           ·have phs101 := hs101; try simp only [decide_eq_true_eq, decide_eq_false_iff_not, Bool.not_eq_true', Bool.not_eq_false', Bool.not_true, Bool.not_false] at phs101
            refine ql_s rfl rfl hs101 rfl ?_
            refine ql_s rfl rfl hs101 rfl ?_
            refine ql_s rfl rfl hs101 rfl ?_
            refine ql_s rfl rfl hs101 rfl ?_
            refine ql_u rfl rfl rfl ?_
            refine ql_u rfl rfl rfl ?_
            refine ql_u rfl rfl rfl ?_
            refine ql_u rfl rfl rfl ?_
            refine ql_u rfl rfl rfl ?_
            refine ql_u rfl rfl rfl ?_
            refine ql_u rfl rfl rfl ?_
            refine ql_u rfl rfl rfl ?_
            refine ql_u rfl rfl rfl ?_
            refine ql_s rfl rfl hs101 rfl ?_
            refine ql_r (r_pickT rfl hs101 rfl) rfl ?_
            refine ql_nil (to_k0 (fun _ _ h => h) (hK27 _ _ _ _ _ ?_))
            clear hK27
            refine wp_condT rfl ?_
            refine wp_seq' fun K28 hK28 => ?_
            refine wp_reg ?_
            refine ol_r (r_assign rfl) rfl ?_
            refine ol_nil (to_k0 (fun _ _ h => h) (hK28 _ _ _ _ _ ?_))
            clear hK28
            refine hQ.ret (rvs1 (rv_t rfl)) (fun _ _ h => h) fun w hb hs hB hkd => ?_
            first
              | exact ⟨rfl, hb⟩
              | (exfalso; exact phs37 trivial)
              | (exfalso; refine phs80 ?_; rw [hB2]; done)
              | (exfalso; omega)
              | (exfalso; rw [hB2] at hx94; rw [hsc] at hx98; subst hx66e; have := more_ge (inB_iff.1 hS.2.2.1).1 hx66 (Int.not_lt.1 phs52) hx94 hx98; omega)
              | (exfalso; rw [hB2] at hx108; rw [hsc] at hx112; refine hc116 (more_same ?_ hx108 hx112); omega)
           ·have phs101 := hs101; try simp only [decide_eq_true_eq, decide_eq_false_iff_not, Bool.not_eq_true', Bool.not_eq_false', Bool.not_true, Bool.not_false] at phs101
            refine ql_g rfl rfl hs101 ?_
            refine ql_r (r_move rfl) rfl ?_
            refine ql_g rfl rfl hs101 ?_
            refine ql_r (r_move rfl) rfl ?_
            refine ql_g rfl rfl hs101 ?_
            refine ql_r (r_lss rfl rfl) rfl ?_
            refine ql_g rfl rfl hs101 ?_
            refine ql_r (r_move rfl) rfl ?_
            refine ql_split (d := 105) rfl (fun hs105 => ?_) (fun hs105 => ?_)
            ·have phs105 := hs105; try simp only [decide_eq_true_eq, decide_eq_false_iff_not, Bool.not_eq_true', Bool.not_eq_false', Bool.not_true, Bool.not_false] at phs105
             refine ql_g rfl rfl hs105 ?_
             refine ql_r (r_move rfl) rfl ?_
             refine ql_g rfl rfl hs105 ?_
             refine ql_r (r_move rfl) rfl ?_
             refine ql_g rfl rfl hs105 ?_
             refine ql_ixo (id := 75) encI _ rfl rfl rfl rfl sl22 (by omega) (by omega) rfl fun x108 hx108 => ?_
             try simp only [Int.toNat_natCast] at hx108
             try simp only [Int.toNat_natCast] at hx108
             refine ql_g rfl rfl hs105 ?_
             refine ql_r (r_ldw rfl (fun w1 hb1 hs1 hB1 => show Loads _ _ _ _ (.int .i64 x108) from ld_own (id := 75) hs1 rfl rfl ty3 hx108)) rfl ?_
             refine ql_g rfl rfl hs105 ?_
             refine ql_r (r_move rfl) rfl ?_
             refine ql_g rfl rfl hs105 ?_
             refine ql_r (r_move rfl) rfl ?_
             refine ql_g rfl rfl hs105 ?_
             refine ql_ixo (id := 22) encI _ rfl rfl rfl rfl sl22 (by omega) (by omega) rfl fun x112 hx112 => ?_
             try simp only [Int.toNat_natCast] at hx112
             try simp only [Int.toNat_natCast] at hx112
             refine ql_g rfl rfl hs105 ?_
             refine ql_r (r_ldw rfl (fun w1 hb1 hs1 hB1 => show Loads _ _ _ _ (.int .i64 x112) from ld_own (id := 22) hs1 rfl rfl ty3 hx112)) rfl ?_
             refine ql_g rfl rfl hs105 ?_
             refine ql_r (r_neq rfl rfl) rfl ?_
             refine ql_g rfl rfl hs101 ?_
             refine ql_r (r_pickT rfl hs105 rfl) rfl ?_
             refine ql_r (r_pickF rfl hs101 rfl) rfl ?_
             refine ql_nil (to_k0 (fun _ _ h => h) (hK27 _ _ _ _ _ ?_))
             clear hK27
             first | refine wp_condD rfl (fun hc116 => ?_) (fun hc116 => ?_) | refine wp_condN rfl (fun hc116 => ?_) (fun hc116 => ?_) | refine wp_condNB rfl (fun hc116 => ?_) (fun hc116 => ?_) | refine wp_cond' rfl (fun hc116 => ?_) (fun hc116 => ?_)
             ·refine wp_seq' fun K29 hK29 => ?_
              refine wp_reg ?_
              refine ol_r (r_assign rfl) rfl ?_
              refine ol_nil (to_k0 (fun _ _ h => h) (hK29 _ _ _ _ _ ?_))
              clear hK29
              refine hQ.ret (rvs1 (rv_t rfl)) (fun _ _ h => h) fun w hb hs hB hkd => ?_
              first
                | exact ⟨rfl, hb⟩
                | (exfalso; exact phs37 trivial)
                | (exfalso; refine phs80 ?_; rw [hB2]; done)
                | (exfalso; omega)
                | (exfalso; rw [hB2] at hx94; rw [hsc] at hx98; subst hx66e; have := more_ge (inB_iff.1 hS.2.2.1).1 hx66 (Int.not_lt.1 phs52) hx94 hx98; omega)
                | (exfalso; rw [hB2] at hx108; rw [hsc] at hx112; refine hc116 (more_same ?_ hx108 hx112); omega)
             ·refine wp_skip' (to_k0 (fun _ _ h => h) (hK25 _ _ _ _ _ ?_))
              clear hK25
              refine wp_reg ?_
              refine ol_r (r_add rfl rfl (by omega)) rfl ?_
              refine ol_r (r_move rfl) rfl ?_
              refine ol_nil (to_k0 (fun _ _ h => h) (hK22 (k + 1) _ _ ?_ ?_ (sub_cons rfl sub_nil) (sub_cons rfl (sub_cons rfl (sub_cons rfl (sub_cons rfl sub_nil)))) (by exact subH_nil) (subH_same rfl (subH_same rfl (subH_same rfl subH_nil)))))
              ·try dsimp only
               omega
              ·try dsimp only
               omega
            ·have phs105 := hs105; try simp only [decide_eq_true_eq, decide_eq_false_iff_not, Bool.not_eq_true', Bool.not_eq_false', Bool.not_true, Bool.not_false] at phs105
             refine ql_s rfl rfl hs105 rfl ?_
             refine ql_s rfl rfl hs105 rfl ?_
             refine ql_s rfl rfl hs105 rfl ?_
             refine ql_s rfl rfl hs105 rfl ?_
             refine ql_s rfl rfl hs105 rfl ?_
             refine ql_s rfl rfl hs105 rfl ?_
             refine ql_s rfl rfl hs105 rfl ?_
             refine ql_s rfl rfl hs105 rfl ?_
             refine ql_s rfl rfl hs105 rfl ?_
             refine ql_g rfl rfl hs101 ?_
             refine ql_r (r_pickF rfl hs105 rfl) rfl ?_
             refine ql_r (r_pickF rfl hs101 rfl) rfl ?_
             refine ql_nil (to_k0 (fun _ _ h => h) (hK27 _ _ _ _ _ ?_))
             clear hK27
             refine wp_condF rfl ?_
             refine wp_skip' (to_k0 (fun _ _ h => h) (hK25 _ _ _ _ _ ?_))
             clear hK25
             refine wp_reg ?_
             refine ol_r (r_add rfl rfl (by omega)) rfl ?_
             refine ol_r (r_move rfl) rfl ?_
             refine ol_nil (to_k0 (fun _ _ h => h) (hK22 (k + 1) _ _ ?_ ?_ (sub_cons rfl sub_nil) (sub_cons rfl (sub_cons rfl (sub_cons rfl (sub_cons rfl sub_nil)))) (by exact subH_nil) (subH_same rfl (subH_same rfl (subH_same rfl subH_nil)))))
             ·try dsimp only
              omega
             ·try dsimp only
              omega
          ·refine wp_exit' (to_k0 (fun _ _ h => h) (hK20 _ _ _ _ _ ?_))
           clear hK20
           refine wp_seq' fun K30 hK30 => ?_
           refine wp_reg ?_
           refine ol_call rfl rfl cb14 rfl (fun w1 hb1 hs1 hB1 => Calls.mono (load_told _) ?_)
           rintro e w2 ⟨rfl, hb2⟩
           refine After.below rfl hb1 hs1 hB1 hb2 ?_
           clear hb2 hB1 hs1 hb1 w2 w1
           refine ol_r (r_assign rfl) rfl ?_
           refine ol_nil (to_k0 (fun _ _ h => h) (hK30 _ _ _ _ _ ?_))
           clear hK30
           refine hQ.ret (rvs1 (rv_t rfl)) (fun _ _ h => h) fun w hb hs hB hkd => ?_
           first
             | exact ⟨rfl, hb⟩
             | (exfalso; exact phs37 trivial)
             | (exfalso; refine phs80 ?_; rw [hB2]; done)
             | (exfalso; omega)
             | (exfalso; rw [hB2] at hx94; rw [hsc] at hx98; subst hx66e; have := more_ge (inB_iff.1 hS.2.2.1).1 hx66 (Int.not_lt.1 phs52) hx94 hx98; omega)
             | (exfalso; rw [hB2] at hx108; rw [hsc] at hx112; refine hc116 (more_same ?_ hx108 hx112); omega)
end Go.Proofs.Ytamlldedmhkobaa
