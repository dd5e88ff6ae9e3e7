/-
  Crossings of easy activities: the program. What harrierlaw5 tells.
-/
import Derived.Test.YtbbhcffkleplnaaCrossM
import Derived.Test.YtbbhcffkleplnaaSeg
import Derived.Test.YtbbhcffkleplnaaScale
import Derived.Test.YtbbhcffkleplnaaSteps
namespace Go.Proofs.Ytbbhcffkleplnaa
open Go Go.RowKit Hx
set_option linter.unusedVariables false
set_option linter.unusedSimpArgs false
set_option maxRecDepth 8000
def encPart : Enc PartR := { size := 2, cells := fun x => [.int .i64 x.num, .int .i64 x.den], val := fun x => .agg #[.int .i64 x.num, .int .i64 x.den], len := fun _ => rfl, ones := fun _ u h => by simp at h; rcases h with rfl | rfl <;> rfl, pos := by decide, vc := fun _ => rfl }
theorem ty112 : Ty Try.prog 112 encPart := .inr ⟨ag112, fun _ => rfl⟩
def encCr : Enc CrossR := { size := 3, cells := fun x => [.int .i64 x.gate, .int .i64 x.step, .int .i64 x.at_], val := fun x => .agg #[.int .i64 x.gate, .int .i64 x.step, .int .i64 x.at_], len := fun _ => rfl, ones := fun _ u h => by simp at h; rcases h with rfl | rfl | rfl <;> rfl, pos := by decide, vc := fun _ => rfl }
theorem ty36 : Ty Try.prog 36 encCr := .inr ⟨ag36, fun _ => rfl⟩
theorem way_down (below : Bool) (whole half : Int) (w : World) : Calls Try.prog 109 #[.bool below, .int .u64 whole, .int .i64 half] w fun e w' => e = .returned (.bool below) ∧ Below w.heap.size w w' := by
  refine enterQ (N := 8) (C := fun _ => True) (H := []) (B := w.heap.size) (args := [_, _, _]) Try.func109 rfl rfl rfl (Nat.le_refl _) (Sat.nil _ _) fun Q hQ => ?_
  refine wp_seq' fun K1 hK1 => ?_
  refine wp_reg ?_
  refine ol_r (r_assign rfl) rfl ?_
  refine ol_nil (to_k0 (fun _ _ h => h) (hK1 _ _ _ _ _ ?_))
  clear hK1
  refine wp_seq' fun K2 hK2 => ?_
  refine wp_reg ?_
  refine ol_r (r_move rfl) rfl ?_
  refine ol_r (r_assign rfl) rfl ?_
  refine ol_nil (to_k0 (fun _ _ h => h) (hK2 _ _ _ _ _ ?_))
  clear hK2
  refine hQ.ret (rvs1 (rv_t rfl)) (fun _ _ h => h) fun w hb hs hB hkd => ?_
  exact ⟨rfl, hb⟩
theorem quant_ScaleDown (a num den : Int) (w : World) (ha : 0 ≤ a ∧ a ≤ 4294967295) (hn : 0 ≤ num ∧ num ≤ 4294967295) (hd : 1 ≤ den ∧ den ≤ 4294967295) (hx : 0 ≤ a * num ∧ a * num ≤ 1000000000000000000) :
    Calls Try.prog 66 #[.int .i64 a, .int .i64 num, .int .i64 den, .int .i64 1] w fun e w' => e = .returned (.tuple #[.int .i64 (a * num / den), .int .i64 0]) ∧ Below w.heap.size w w' := by
  have hq : 0 ≤ a * num / den := Int.ediv_nonneg hx.1 (by omega)
  have hq2 : a * num / den ≤ a * num := Int.ediv_le_self _ hx.1
  have hr : 0 ≤ a * num % den := Int.emod_nonneg _ (by omega)
  have hr2 : a * num % den < den := Int.emod_lt_of_pos _ (by omega)
  refine enterQ (N := 88) (C := fun _ => True) (H := []) (B := w.heap.size) (args := [_, _, _, _]) Try.func66 rfl rfl rfl (Nat.le_refl _) (Sat.nil _ _) fun Q hQ => ?_
  refine wp_seq' fun K1 hK1 => ?_
  refine wp_reg ?_
  refine ol_box 7 rfl rfl rfl fun b7 => ?_
  refine ol_r (r_assign rfl) rfl ?_
  refine ol_r (r_assign rfl) rfl ?_
  refine ol_nil (to_k0 (fun _ _ h => h) (hK1 _ _ _ _ _ ?_))
  clear hK1
  refine wp_seq' fun K2 hK2 => ?_
  refine wp_reg ?_
  refine ol_call rfl rfl cb90 rfl (fun w1 hb1 hs1 hB1 => Calls.mono (quant_ways _) ?_)
  rintro e w2 ⟨a18, n18, c18, rfl, hf18⟩
  refine After.fresh (id := 18) rfl hb1 hs1 hB1 hf18 ?_
  have hl18 := hf18.len; clear hf18 hB1 hs1 hb1 w2 w1
  refine ol_r (r_assign rfl) rfl ?_
  refine ol_nil (to_k0 (fun _ _ h => h) (hK2 _ _ _ _ _ ?_))
  clear hK2
  refine wp_seq' fun K3 hK3 => ?_
  refine wp_reg ?_
  have hn18 : n18 = 5 := by rw [← hl18]; rfl
  refine ol_r (r_move rfl) rfl ?_
  refine ol_r (r_func rfl) rfl ?_
  refine ol_call rfl rfl cb91 rfl (fun w1 hb1 hs1 hB1 => Calls.mono (indexFunc_way _ _ _ waysL _ _ (fun x => decide (x.1 = 1)) 0 _ (Sat.rd hs1 (E := encWay) (id := 18) rfl rfl) cb92 rfl (fun x w' _ h1 h2 => scale_is x 1 _ w' ((hs1.blk (id := 7) rfl).at h1 h2))) ?_)
  rintro e w2 ⟨rfl, hb2⟩
  refine After.below rfl hb1 hs1 hB1 hb2 ?_
  clear hb2 hB1 hs1 hb1 w2 w1
  refine ol_r (r_assign rfl) rfl ?_
  refine ol_nil (to_k0 (fun _ _ h => h) (hK3 _ _ _ _ _ ?_))
  clear hK3
  refine wp_seq' fun K4 hK4 => ?_
  refine wp_seq' fun K5 hK5 => ?_
  refine wp_reg ?_
  refine ol_r (r_move rfl) rfl ?_
  refine ol_r (r_lss rfl rfl) rfl ?_
  refine ol_nil (to_k0 (fun _ _ h => h) (hK5 _ _ _ _ _ ?_))
  clear hK5
  refine wp_condD rfl (fun hc23 => ?_) (fun hc23 => ?_)
  ·exfalso
   omega
  ·refine wp_skip' (to_k0 (fun _ _ h => h) (hK4 _ _ _ _ _ ?_))
   clear hK4
   refine wp_seq' fun K6 hK6 => ?_
   refine wp_seq' fun K7 hK7 => ?_
   refine wp_reg ?_
   refine ol_r (r_move rfl) rfl ?_
   refine ol_r (r_leq rfl rfl) rfl ?_
   refine ol_r (r_move rfl) rfl ?_
   refine ol_split (d := 26) rfl (fun hs26 => ?_) (fun hs26 => ?_)
   ·have phs26 := hs26; try simp only [decide_eq_true_eq, decide_eq_false_iff_not, Bool.not_eq_true', Bool.not_eq_false', Bool.not_true, Bool.not_false] at phs26
    refine ol_s rfl rfl hs26 rfl ?_
    refine ol_s rfl rfl hs26 rfl ?_
    refine ol_r (r_pickT rfl hs26 rfl) rfl ?_
    refine ol_nil (to_k0 (fun _ _ h => h) (hK7 _ _ _ _ _ ?_))
    clear hK7
    refine wp_condT rfl ?_
    refine wp_seq' fun K8 hK8 => ?_
    refine wp_reg ?_
    refine ol_r (r_assign rfl) rfl ?_
    refine ol_r (r_assign rfl) rfl ?_
    refine ol_nil (to_k0 (fun _ _ h => h) (hK8 _ _ _ _ _ ?_))
    clear hK8
    refine hQ.ret (rvs2 (rv_t rfl) (rv_t rfl)) (fun _ _ h => h) fun w hb hs hB hkd => ?_
    first
      | (exfalso; omega)
   ·have phs26 := hs26; try simp only [decide_eq_true_eq, decide_eq_false_iff_not, Bool.not_eq_true', Bool.not_eq_false', Bool.not_true, Bool.not_false] at phs26
    refine ol_g rfl rfl hs26 ?_
    refine ol_r (r_move rfl) rfl ?_
    refine ol_g rfl rfl hs26 ?_
    refine ol_r (r_lss rfl rfl) rfl ?_
    refine ol_r (r_pickF rfl hs26 rfl) rfl ?_
    refine ol_nil (to_k0 (fun _ _ h => h) (hK7 _ _ _ _ _ ?_))
    clear hK7
    refine wp_condD rfl (fun hc29 => ?_) (fun hc29 => ?_)
    ·exfalso
     omega
    ·refine wp_skip' (to_k0 (fun _ _ h => h) (hK6 _ _ _ _ _ ?_))
     clear hK6
     refine wp_seq' fun K9 hK9 => ?_
     refine wp_reg ?_
     refine ol_r (r_move rfl) rfl ?_
     refine ol_r (r_lss rfl rfl) rfl ?_
     refine ol_r (r_assign rfl) rfl ?_
     refine ol_nil (to_k0 (fun _ _ h => h) (hK9 _ _ _ _ _ ?_))
     clear hK9
     refine wp_seq' fun K10 hK10 => ?_
     refine wp_reg ?_
     refine ol_r (r_move rfl) rfl ?_
     refine ol_r (r_conv (k2 := .u64) rfl (by kernel_rfl) (by kernel_rfl) (wrap_u64 (by omega))) rfl ?_
     refine ol_r (r_assign rfl) rfl ?_
     refine ol_nil (to_k0 (fun _ _ h => h) (hK10 _ _ _ _ _ ?_))
     clear hK10
     refine wp_seq' fun K11 hK11 => ?_
     refine wp_seq' fun K12 hK12 => ?_
     refine wp_reg ?_
     refine ol_r (r_move rfl) rfl ?_
     refine ol_nil (to_k0 (fun _ _ h => h) (hK12 _ _ _ _ _ ?_))
     clear hK12
     refine wp_condD rfl (fun hc34 => ?_) (fun hc34 => ?_)
     ·exfalso
      omega
     ·refine wp_skip' (to_k0 (fun _ _ h => h) (hK11 _ _ _ _ _ ?_))
      clear hK11
      refine wp_seq' fun K13 hK13 => ?_
      refine wp_reg ?_
      refine ol_r (r_move rfl) rfl ?_
      refine ol_r (r_move rfl) rfl ?_
      refine ol_r (r_conv (k2 := .u64) rfl (by kernel_rfl) (by kernel_rfl) (wrap_u64 (by omega))) rfl ?_
      refine ol_call rfl rfl cb78 rfl (fun w1 hb1 hs1 hB1 => Calls.mono (bits_Mul64 a num _ ha hn (by omega)) ?_)
      rintro e w2 ⟨rfl, hb2⟩
      refine After.below rfl hb1 hs1 hB1 hb2 ?_
      clear hb2 hB1 hs1 hb1 w2 w1
      refine ol_r (r_move rfl) rfl ?_
      refine ol_r (r_extract rfl rfl) rfl ?_
      refine ol_r (r_extract rfl rfl) rfl ?_
      refine ol_r (r_assign rfl) rfl ?_
      refine ol_r (r_assign rfl) rfl ?_
      refine ol_nil (to_k0 (fun _ _ h => h) (hK13 _ _ _ _ _ ?_))
      clear hK13
      refine wp_seq' fun K14 hK14 => ?_
      refine wp_seq' fun K15 hK15 => ?_
      refine wp_reg ?_
      refine ol_r (r_move rfl) rfl ?_
      refine ol_r (r_move rfl) rfl ?_
      refine ol_r (r_conv (k2 := .u64) rfl (by kernel_rfl) (by kernel_rfl) (wrap_u64 (by omega))) rfl ?_
      refine ol_r (r_geq rfl rfl) rfl ?_
      refine ol_nil (to_k0 (fun _ _ h => h) (hK15 _ _ _ _ _ ?_))
      clear hK15
      refine wp_condD rfl (fun hc47 => ?_) (fun hc47 => ?_)
      ·exfalso
       omega
      ·refine wp_skip' (to_k0 (fun _ _ h => h) (hK14 _ _ _ _ _ ?_))
       clear hK14
       refine wp_seq' fun K16 hK16 => ?_
       refine wp_reg ?_
       refine ol_r (r_move rfl) rfl ?_
       refine ol_r (r_move rfl) rfl ?_
       refine ol_r (r_move rfl) rfl ?_
       refine ol_r (r_conv (k2 := .u64) rfl (by kernel_rfl) (by kernel_rfl) (wrap_u64 (by omega))) rfl ?_
       refine ol_call rfl rfl cb80 rfl (fun w1 hb1 hs1 hB1 => Calls.mono (bits_Div64 (a * num) den _ (by omega) (by omega)) ?_)
       rintro e w2 ⟨rfl, hb2⟩
       refine After.below rfl hb1 hs1 hB1 hb2 ?_
       clear hb2 hB1 hs1 hb1 w2 w1
       refine ol_r (r_move rfl) rfl ?_
       refine ol_r (r_extract rfl rfl) rfl ?_
       refine ol_r (r_extract rfl rfl) rfl ?_
       refine ol_r (r_assign rfl) rfl ?_
       refine ol_r (r_assign rfl) rfl ?_
       refine ol_nil (to_k0 (fun _ _ h => h) (hK16 _ _ _ _ _ ?_))
       clear hK16
       refine wp_seq' fun K17 hK17 => ?_
       refine wp_seq' fun K18 hK18 => ?_
       refine wp_regq (by kernel_rfl) (by kernel_rfl) ?_
       refine ql_r (r_move rfl) rfl ?_
       refine ql_r (r_gtr rfl rfl) rfl ?_
       refine ql_r (r_move rfl) rfl ?_
       refine ql_split (d := 58) rfl (fun hs58 => ?_) (fun hs58 => ?_)
       ·have phs58 := hs58; try simp only [decide_eq_true_eq, decide_eq_false_iff_not, Bool.not_eq_true', Bool.not_eq_false', Bool.not_true, Bool.not_false] at phs58
        refine ql_g rfl rfl hs58 ?_
        refine ql_r (r_move rfl) rfl ?_
        refine ql_g rfl rfl hs58 ?_
        refine ql_r (r_leq rfl rfl) rfl ?_
        refine ql_r (r_pickT rfl hs58 rfl) rfl ?_
        refine ql_r (r_move rfl) rfl ?_
        refine ql_split (d := 62) rfl (fun hs62 => ?_) (fun hs62 => ?_)
        ·have phs62 := hs62; try simp only [decide_eq_true_eq, decide_eq_false_iff_not, Bool.not_eq_true', Bool.not_eq_false', Bool.not_true, Bool.not_false] at phs62
         refine ql_g rfl rfl hs62 ?_
         refine ql_r (r_move rfl) rfl ?_
         refine ql_g rfl rfl hs62 ?_
         refine ql_r (r_move rfl) rfl ?_
         refine ql_g rfl rfl hs62 ?_
         refine ql_ixo (id := 18) encWay waysL rfl rfl rfl rfl sl131 (by omega) (by omega) rfl fun x65 hx65 => ?_
         try simp only [Int.toNat_natCast] at hx65
         try simp only [Int.toNat_natCast] at hx65
         refine ql_g rfl rfl hs62 ?_
         have h65 := Option.some.inj (hx65.symm.trans (show _ = some ((1, 109) : Int × FuncId) from rfl))
         subst h65
         refine ql_r (r_faO (id := 18) rfl rfl rfl hx65 fl136_1) rfl ?_
         refine ql_g rfl rfl hs62 ?_
         refine ql_r (r_ldw rfl (fun w1 hb1 hs1 hB1 => ld_ownF (id := 18) (o := 1) hs1 rfl rfl sc134 hx65 rfl)) rfl ?_
         refine ql_g rfl rfl hs62 ?_
         refine ql_r (r_move rfl) rfl ?_
         refine ql_g rfl rfl hs62 ?_
         refine ql_r (r_move rfl) rfl ?_
         refine ql_g rfl rfl hs62 ?_
         refine ql_r (r_move rfl) rfl ?_
         refine ql_g rfl rfl hs62 ?_
         refine ql_r (r_move rfl) rfl ?_
         refine ql_g rfl rfl hs62 ?_
         refine ql_r (r_conv (k2 := .u64) rfl (by kernel_rfl) (by kernel_rfl) (wrap_u64 (by omega))) rfl ?_
         refine ql_g rfl rfl hs62 ?_
         refine ql_r (r_move rfl) rfl ?_
         refine ql_g rfl rfl hs62 ?_
         refine ql_r (r_subg _ rfl rfl (wrap_u64 (by omega))) rfl ?_
         refine ql_g rfl rfl hs62 ?_
         refine ql_call rfl rfl cb93 rfl (fun w1 hb1 hs1 hB1 => cmp_Compareu _ _ _) ?_
         refine ql_g rfl rfl hs62 ?_
         refine ql_call rfl rfl cb109 rfl (fun w1 hb1 hs1 hB1 => way_down _ _ _ _) ?_
         refine ql_r (r_pickT rfl hs62 rfl) rfl ?_
         refine ql_nil (to_k0 (fun _ _ h => h) (hK18 _ _ _ _ _ ?_))
         clear hK18
         refine wp_condD rfl (fun hc77 => ?_) (fun hc77 => ?_)
         ·refine wp_reg ?_
          refine ol_r (r_move rfl) rfl ?_
          refine ol_r (r_addg _ rfl rfl (wrap_u64 (by omega))) rfl ?_
          refine ol_r (r_assign rfl) rfl ?_
          refine ol_nil (to_k0 (fun _ _ h => h) (hK17 _ _ _ _ _ ?_))
          clear hK17
          refine wp_seq' fun K19 hK19 => ?_
          refine wp_seq' fun K20 hK20 => ?_
          refine wp_reg ?_
          refine ol_r (r_move rfl) rfl ?_
          refine ol_r (r_gtr rfl rfl) rfl ?_
          refine ol_nil (to_k0 (fun _ _ h => h) (hK20 _ _ _ _ _ ?_))
          clear hK20
          refine wp_condD rfl (fun hc81 => ?_) (fun hc81 => ?_)
          ·exfalso
           omega
          ·refine wp_skip' (to_k0 (fun _ _ h => h) (hK19 _ _ _ _ _ ?_))
           clear hK19
           refine wp_seq' fun K21 hK21 => ?_
           refine wp_seq' fun K22 hK22 => ?_
           refine wp_reg ?_
           refine ol_r (r_move rfl) rfl ?_
           refine ol_nil (to_k0 (fun _ _ h => h) (hK22 _ _ _ _ _ ?_))
           clear hK22
           refine wp_condD rfl (fun hc82 => ?_) (fun hc82 => ?_)
           ·exfalso
            omega
           ·refine wp_skip' (to_k0 (fun _ _ h => h) (hK21 _ _ _ _ _ ?_))
            clear hK21
            refine wp_seq' fun K23 hK23 => ?_
            refine wp_reg ?_
            refine ol_r (r_move rfl) rfl ?_
            refine ol_r (r_conv (k2 := .i64) rfl (by kernel_rfl) (by kernel_rfl) (IntWalk.i64_in _ (by omega))) rfl ?_
            refine ol_r (r_assign rfl) rfl ?_
            refine ol_r (r_assign rfl) rfl ?_
            refine ol_nil (to_k0 (fun _ _ h => h) (hK23 _ _ _ _ _ ?_))
            clear hK23
            refine hQ.ret (rvs2 (rv_t rfl) (rv_t rfl)) (fun _ _ h => h) fun w hb hs hB hkd => ?_
            first
              | (exfalso; omega)
         ·refine wp_skip' (to_k0 (fun _ _ h => h) (hK17 _ _ _ _ _ ?_))
          clear hK17
          refine wp_seq' fun K24 hK24 => ?_
          refine wp_seq' fun K25 hK25 => ?_
          refine wp_reg ?_
          refine ol_r (r_move rfl) rfl ?_
          refine ol_r (r_gtr rfl rfl) rfl ?_
          refine ol_nil (to_k0 (fun _ _ h => h) (hK25 _ _ _ _ _ ?_))
          clear hK25
          refine wp_condD rfl (fun hc81 => ?_) (fun hc81 => ?_)
          ·exfalso
           omega
          ·refine wp_skip' (to_k0 (fun _ _ h => h) (hK24 _ _ _ _ _ ?_))
           clear hK24
           refine wp_seq' fun K26 hK26 => ?_
           refine wp_seq' fun K27 hK27 => ?_
           refine wp_reg ?_
           refine ol_r (r_move rfl) rfl ?_
           refine ol_nil (to_k0 (fun _ _ h => h) (hK27 _ _ _ _ _ ?_))
           clear hK27
           refine wp_condD rfl (fun hc82 => ?_) (fun hc82 => ?_)
           ·exfalso
            omega
           ·refine wp_skip' (to_k0 (fun _ _ h => h) (hK26 _ _ _ _ _ ?_))
            clear hK26
            refine wp_seq' fun K28 hK28 => ?_
            refine wp_reg ?_
            refine ol_r (r_move rfl) rfl ?_
            refine ol_r (r_conv (k2 := .i64) rfl (by kernel_rfl) (by kernel_rfl) (IntWalk.i64_in _ (by omega))) rfl ?_
            refine ol_r (r_assign rfl) rfl ?_
            refine ol_r (r_assign rfl) rfl ?_
            refine ol_nil (to_k0 (fun _ _ h => h) (hK28 _ _ _ _ _ ?_))
            clear hK28
            refine hQ.ret (rvs2 (rv_t rfl) (rv_t rfl)) (fun _ _ h => h) fun w hb hs hB hkd => ?_
            first
              | exact ⟨rfl, hb⟩
        ·have phs62 := hs62; try simp only [decide_eq_true_eq, decide_eq_false_iff_not, Bool.not_eq_true', Bool.not_eq_false', Bool.not_true, Bool.not_false] at phs62
         refine ql_s rfl rfl hs62 rfl ?_
         refine ql_s rfl rfl hs62 rfl ?_
         refine ql_s rfl rfl hs62 rfl ?_
         refine ql_s rfl rfl hs62 rfl ?_
         refine ql_s rfl rfl hs62 rfl ?_
         refine ql_s rfl rfl hs62 rfl ?_
         refine ql_s rfl rfl hs62 rfl ?_
         refine ql_s rfl rfl hs62 rfl ?_
         refine ql_s rfl rfl hs62 rfl ?_
         refine ql_s rfl rfl hs62 rfl ?_
         refine ql_s rfl rfl hs62 rfl ?_
         refine ql_s rfl rfl hs62 rfl ?_
         refine ql_s rfl rfl hs62 rfl ?_
         refine ql_s rfl rfl hs62 rfl ?_
         refine ql_r (r_pickF rfl hs62 rfl) rfl ?_
         refine ql_nil (to_k0 (fun _ _ h => h) (hK18 _ _ _ _ _ ?_))
         clear hK18
         refine wp_condF rfl ?_
         refine wp_skip' (to_k0 (fun _ _ h => h) (hK17 _ _ _ _ _ ?_))
         clear hK17
         refine wp_seq' fun K29 hK29 => ?_
         refine wp_seq' fun K30 hK30 => ?_
         refine wp_reg ?_
         refine ol_r (r_move rfl) rfl ?_
         refine ol_r (r_gtr rfl rfl) rfl ?_
         refine ol_nil (to_k0 (fun _ _ h => h) (hK30 _ _ _ _ _ ?_))
         clear hK30
         refine wp_condD rfl (fun hc81 => ?_) (fun hc81 => ?_)
         ·exfalso
          omega
         ·refine wp_skip' (to_k0 (fun _ _ h => h) (hK29 _ _ _ _ _ ?_))
          clear hK29
          refine wp_seq' fun K31 hK31 => ?_
          refine wp_seq' fun K32 hK32 => ?_
          refine wp_reg ?_
          refine ol_r (r_move rfl) rfl ?_
          refine ol_nil (to_k0 (fun _ _ h => h) (hK32 _ _ _ _ _ ?_))
          clear hK32
          refine wp_condD rfl (fun hc82 => ?_) (fun hc82 => ?_)
          ·exfalso
           omega
          ·refine wp_skip' (to_k0 (fun _ _ h => h) (hK31 _ _ _ _ _ ?_))
           clear hK31
           refine wp_seq' fun K33 hK33 => ?_
           refine wp_reg ?_
           refine ol_r (r_move rfl) rfl ?_
           refine ol_r (r_conv (k2 := .i64) rfl (by kernel_rfl) (by kernel_rfl) (IntWalk.i64_in _ (by omega))) rfl ?_
           refine ol_r (r_assign rfl) rfl ?_
           refine ol_r (r_assign rfl) rfl ?_
           refine ol_nil (to_k0 (fun _ _ h => h) (hK33 _ _ _ _ _ ?_))
           clear hK33
           refine hQ.ret (rvs2 (rv_t rfl) (rv_t rfl)) (fun _ _ h => h) fun w hb hs hB hkd => ?_
           first
             | exact ⟨rfl, hb⟩
       ·have phs58 := hs58; try simp only [decide_eq_true_eq, decide_eq_false_iff_not, Bool.not_eq_true', Bool.not_eq_false', Bool.not_true, Bool.not_false] at phs58
        refine ql_s rfl rfl hs58 rfl ?_
        refine ql_s rfl rfl hs58 rfl ?_
        refine ql_r (r_pickF rfl hs58 rfl) rfl ?_
        refine ql_r (r_move rfl) rfl ?_
        refine ql_s rfl rfl rfl rfl ?_
        refine ql_s rfl rfl rfl rfl ?_
        refine ql_s rfl rfl rfl rfl ?_
        refine ql_s rfl rfl rfl rfl ?_
        refine ql_s rfl rfl rfl rfl ?_
        refine ql_s rfl rfl rfl rfl ?_
        refine ql_s rfl rfl rfl rfl ?_
        refine ql_s rfl rfl rfl rfl ?_
        refine ql_s rfl rfl rfl rfl ?_
        refine ql_s rfl rfl rfl rfl ?_
        refine ql_s rfl rfl rfl rfl ?_
        refine ql_s rfl rfl rfl rfl ?_
        refine ql_s rfl rfl rfl rfl ?_
        refine ql_s rfl rfl rfl rfl ?_
        refine ql_r (r_pickF rfl rfl rfl) rfl ?_
        refine ql_nil (to_k0 (fun _ _ h => h) (hK18 _ _ _ _ _ ?_))
        clear hK18
        refine wp_condF rfl ?_
        refine wp_skip' (to_k0 (fun _ _ h => h) (hK17 _ _ _ _ _ ?_))
        clear hK17
        refine wp_seq' fun K34 hK34 => ?_
        refine wp_seq' fun K35 hK35 => ?_
        refine wp_reg ?_
        refine ol_r (r_move rfl) rfl ?_
        refine ol_r (r_gtr rfl rfl) rfl ?_
        refine ol_nil (to_k0 (fun _ _ h => h) (hK35 _ _ _ _ _ ?_))
        clear hK35
        refine wp_condD rfl (fun hc81 => ?_) (fun hc81 => ?_)
        ·exfalso
         omega
        ·refine wp_skip' (to_k0 (fun _ _ h => h) (hK34 _ _ _ _ _ ?_))
         clear hK34
         refine wp_seq' fun K36 hK36 => ?_
         refine wp_seq' fun K37 hK37 => ?_
         refine wp_reg ?_
         refine ol_r (r_move rfl) rfl ?_
         refine ol_nil (to_k0 (fun _ _ h => h) (hK37 _ _ _ _ _ ?_))
         clear hK37
         refine wp_condD rfl (fun hc82 => ?_) (fun hc82 => ?_)
         ·exfalso
          omega
         ·refine wp_skip' (to_k0 (fun _ _ h => h) (hK36 _ _ _ _ _ ?_))
          clear hK36
          refine wp_seq' fun K38 hK38 => ?_
          refine wp_reg ?_
          refine ol_r (r_move rfl) rfl ?_
          refine ol_r (r_conv (k2 := .i64) rfl (by kernel_rfl) (by kernel_rfl) (IntWalk.i64_in _ (by omega))) rfl ?_
          refine ol_r (r_assign rfl) rfl ?_
          refine ol_r (r_assign rfl) rfl ?_
          refine ol_nil (to_k0 (fun _ _ h => h) (hK38 _ _ _ _ _ ?_))
          clear hK38
          refine hQ.ret (rvs2 (rv_t rfl) (rv_t rfl)) (fun _ _ h => h) fun w hb hs hB hkd => ?_
          first
            | exact ⟨rfl, hb⟩
theorem match_sideOf (ax ay bx by_ x y : Int) (w : World) (h1 : -100000000 ≤ ax ∧ ax ≤ 100000000) (h2 : -100000000 ≤ ay ∧ ay ≤ 100000000) (h3 : -100000000 ≤ bx ∧ bx ≤ 100000000) (h4 : -100000000 ≤ by_ ∧ by_ ≤ 100000000) (h5 : -100000000 ≤ x ∧ x ≤ 100000000) (h6 : -100000000 ≤ y ∧ y ≤ 100000000) :
    Calls Try.prog 100 #[.agg #[.int .i64 ax, .int .i64 ay], .agg #[.int .i64 bx, .int .i64 by_], .agg #[.int .i64 x, .int .i64 y]] w fun e w' => e = .returned (.int .i64 (side6 ax ay bx by_ x y)) ∧ Below w.heap.size w w' := by
  have m1 := mul_ab (a := bx - ax) (b := y - ay) (by omega) (by omega)
  have m2 := mul_ab (a := by_ - ay) (b := x - ax) (by omega) (by omega)
  refine enterQ (N := 30) (C := fun _ => True) (H := []) (B := w.heap.size) (args := [_, _, _]) Try.func100 rfl rfl rfl (Nat.le_refl _) (Sat.nil _ _) fun Q hQ => ?_
  refine wp_seq' fun K1 hK1 => ?_
  refine wp_reg ?_
  refine ol_box 3 rfl rfl rfl fun b3 => ?_
  refine ol_box 4 rfl rfl rfl fun b4 => ?_
  refine ol_box 5 rfl rfl rfl fun b5 => ?_
  refine ol_r (r_assign rfl) rfl ?_
  refine ol_nil (to_k0 (fun _ _ h => h) (hK1 _ _ _ _ _ ?_))
  clear hK1
  refine wp_seq' fun K2 hK2 => ?_
  refine wp_reg ?_
  refine ol_r (r_fa (o' := 0) rfl fl62_0 rfl) rfl ?_
  refine ol_r (r_ld (id := 4) rfl rfl rfl sc3) rfl ?_
  refine ol_r (r_fa (o' := 0) rfl fl62_0 rfl) rfl ?_
  refine ol_r (r_ld (id := 3) rfl rfl rfl sc3) rfl ?_
  refine ol_r (r_sub rfl rfl (by omega)) rfl ?_
  refine ol_r (r_fa (o' := 1) rfl fl62_1 rfl) rfl ?_
  refine ol_r (r_ld (id := 5) rfl rfl rfl sc3) rfl ?_
  refine ol_r (r_fa (o' := 1) rfl fl62_1 rfl) rfl ?_
  refine ol_r (r_ld (id := 3) rfl rfl rfl sc3) rfl ?_
  refine ol_r (r_sub rfl rfl (by omega)) rfl ?_
  refine ol_r (r_mul rfl rfl (by omega)) rfl ?_
  refine ol_r (r_fa (o' := 1) rfl fl62_1 rfl) rfl ?_
  refine ol_r (r_ld (id := 4) rfl rfl rfl sc3) rfl ?_
  refine ol_r (r_fa (o' := 1) rfl fl62_1 rfl) rfl ?_
  refine ol_r (r_ld (id := 3) rfl rfl rfl sc3) rfl ?_
  refine ol_r (r_sub rfl rfl (by omega)) rfl ?_
  refine ol_r (r_fa (o' := 0) rfl fl62_0 rfl) rfl ?_
  refine ol_r (r_ld (id := 5) rfl rfl rfl sc3) rfl ?_
  refine ol_r (r_fa (o' := 0) rfl fl62_0 rfl) rfl ?_
  refine ol_r (r_ld (id := 3) rfl rfl rfl sc3) rfl ?_
  refine ol_r (r_sub rfl rfl (by omega)) rfl ?_
  refine ol_r (r_mul rfl rfl (by omega)) rfl ?_
  refine ol_r (r_sub rfl rfl (by omega)) rfl ?_
  refine ol_r (r_assign rfl) rfl ?_
  refine ol_nil (to_k0 (fun _ _ h => h) (hK2 _ _ _ _ _ ?_))
  clear hK2
  refine hQ.ret (rvs1 (rv_t rfl)) (fun _ _ h => h) fun w hb hs hB hkd => ?_
  exact ⟨rfl, hb⟩
theorem side6_bd {ax ay bx by_ x y : Int} (h1 : -100000000 ≤ ax ∧ ax ≤ 100000000) (h2 : -100000000 ≤ ay ∧ ay ≤ 100000000) (h3 : -100000000 ≤ bx ∧ bx ≤ 100000000) (h4 : -100000000 ≤ by_ ∧ by_ ≤ 100000000) (h5 : -100000000 ≤ x ∧ x ≤ 100000000) (h6 : -100000000 ≤ y ∧ y ≤ 100000000) : -80000000000000000 ≤ side6 ax ay bx by_ x y ∧ side6 ax ay bx by_ x y ≤ 80000000000000000 := by
  have m1 := mul_ab (a := bx - ax) (b := y - ay) (by omega) (by omega)
  have m2 := mul_ab (a := by_ - ay) (b := x - ax) (by omega) (by omega)
  unfold side6
  omega
theorem match_pointOf (p : SmpR) (w : World) : Calls Try.prog 65 #[.agg #[.int .i64 p.at_, .int .i64 p.x, .int .i64 p.y, .int .i64 p.z, .int .i64 p.pulse, .int .i64 p.power, .int .i64 p.steps]] w fun e w' => e = .returned (.agg #[.int .i64 p.x, .int .i64 p.y]) ∧ Below w.heap.size w w' := by
  refine enterQ (N := 8) (C := fun _ => True) (H := []) (B := w.heap.size) (args := [_]) Try.func65 rfl rfl rfl (Nat.le_refl _) (Sat.nil _ _) fun Q hQ => ?_
  refine wp_seq' fun K1 hK1 => ?_
  refine wp_reg ?_
  refine ol_box 1 rfl rfl rfl fun b1 => ?_
  refine ol_alloc 2 z62 rfl fun b2 => ?_
  refine ol_nil (to_k0 (fun _ _ h => h) (hK1 _ _ _ _ _ ?_))
  clear hK1
  refine wp_seq' fun K2 hK2 => ?_
  refine wp_reg ?_
  refine ol_r (r_fa (o' := 1) rfl fl73_1 rfl) rfl ?_
  refine ol_r (r_ld (id := 1) rfl rfl rfl sc3) rfl ?_
  refine ol_r (r_fa (o' := 2) rfl fl73_2 rfl) rfl ?_
  refine ol_r (r_ld (id := 1) rfl rfl rfl sc3) rfl ?_
  refine ol_r (r_build rfl (fun _ => bd62_0_1 _ _ _)) rfl ?_
  refine ol_store (id := 2) rfl rfl rfl rfl sz62 rfl rfl (by first | decide | exact Nat.zero_lt_succ _ | simp) ?_
  refine ol_nil (to_k0 (fun _ _ h => h) (hK2 _ _ _ _ _ ?_))
  clear hK2
  refine hQ.ret (rvs1 (rv_c (id := 2) (n := 2) rfl rfl ag62 rfl)) (fun _ _ h => h) fun w hb hs hB hkd => ?_
  exact ⟨rfl, hb⟩
theorem gate_bd {g : GateR} (h : ∀ p, fG p g = 0) : ((-100000000 ≤ g.ax ∧ g.ax ≤ 100000000) ∧ (-100000000 ≤ g.ay ∧ g.ay ≤ 100000000)) ∧ ((-100000000 ≤ g.bx ∧ g.bx ≤ 100000000) ∧ (-100000000 ≤ g.by_ ∧ g.by_ ≤ 100000000)) := by
  obtain ⟨h1, h2, _⟩ := fG_inv (h none)
  unfold ptB at h1 h2
  rw [Bool.and_eq_true] at h1 h2
  exact ⟨⟨inB_iff.1 h1.1, inB_iff.1 h1.2⟩, ⟨inB_iff.1 h2.1, inB_iff.1 h2.2⟩⟩
theorem match_crosses (g : GateR) (p q : SmpR) (w : World) (hg : ∀ o, fG o g = 0) (hp : PlaceOk p) (hq : PlaceOk q) :
    Calls Try.prog 72 #[encGate.val g, .agg #[.int .i64 p.at_, .int .i64 p.x, .int .i64 p.y, .int .i64 p.z, .int .i64 p.pulse, .int .i64 p.power, .int .i64 p.steps], .agg #[.int .i64 q.at_, .int .i64 q.x, .int .i64 q.y, .int .i64 q.z, .int .i64 q.pulse, .int .i64 q.power, .int .i64 q.steps]] w fun e w' => e = .returned (.tuple #[.agg #[.int .i64 (partOf g p q).num, .int .i64 (partOf g p q).den], .bool (crB g p q)]) ∧ Below w.heap.size w w' := by
  obtain ⟨⟨g1, g2⟩, g3, g4⟩ := gate_bd hg
  obtain ⟨p1, p2⟩ := hp
  obtain ⟨q1, q2⟩ := hq
  have b1 := side6_bd g1 g2 g3 g4 p1 p2
  have b2 := side6_bd g1 g2 g3 g4 q1 q2
  refine enterQ (N := 68) (C := fun _ => True) (H := []) (B := w.heap.size) (args := [_, _, _]) Try.func72 rfl rfl rfl (Nat.le_refl _) (Sat.nil _ _) fun Q hQ => ?_
  refine wp_seq' fun K1 hK1 => ?_
  refine wp_reg ?_
  refine ol_box 3 rfl rfl rfl fun b3 => ?_
  refine ol_box 4 rfl rfl rfl fun b4 => ?_
  refine ol_box 5 rfl rfl rfl fun b5 => ?_
  refine ol_alloc 6 z112 rfl fun b6 => ?_
  refine ol_r (r_assign rfl) rfl ?_
  refine ol_nil (to_k0 (fun _ _ h => h) (hK1 _ _ _ _ _ ?_))
  clear hK1
  apply wp_seq_cutM (σ := Nat × Nat) (fun s => True) (fun s => [(8, .pointer (some ⟨s.1, 0, none⟩)), (9, .pointer (some ⟨s.2, 0, none⟩))]) [(3, _), (6, _), (7, _)] (fun s => [(8, .blk s.1 (pairs 0 [.int .i64 p.x, .int .i64 p.y]) 62), (9, .blk s.2 (pairs 0 [.int .i64 q.x, .int .i64 q.y]) 62)]) [(3, _), (4, _), (5, _), (6, _)]
  ·exact (sub_cons rfl (sub_cons rfl (sub_cons rfl sub_nil)))
  ·exact (subH_same rfl (subH_same rfl (subH_same rfl (subH_same rfl subH_nil))))
  ·intro K2 hK2
   refine wp_rega [(999, [(3, _), (4, _), (5, _), (6, _)])] (by kernel_rfl) ⟨.inr (subH_same rfl (subH_same rfl (subH_same rfl (subH_same rfl subH_nil)))), trivial⟩ ?_
   refine aq_r 0 999 rfl (by kernel_rfl) (by kernel_rfl) (by kernel_rfl) (.head _) (by kernel_rfl) (by kernel_rfl) rfl (r_lda (id := 4) (n := 7) rfl rfl rfl ag73) ?_
   refine aq_r 2 999 rfl (by kernel_rfl) (by kernel_rfl) (by kernel_rfl) (.head _) (by kernel_rfl) (by kernel_rfl) rfl (r_lda (id := 5) (n := 7) rfl rfl rfl ag73) ?_
   refine aq_three (i := 1) (j := 4) (l := 5) (by kernel_rfl) rfl rfl rfl (fun K3 hK3 => ?_) (fun K3 hK3 => ?_) (fun K3 hK3 => ?_)
   ·refine ol_call rfl rfl cb65 rfl (fun w1 hb1 hs1 hB1 => Calls.mono (match_pointOf _ _) ?_)
    rintro e w2 ⟨rfl, hb2⟩
    refine After.below rfl hb1 hs1 hB1 hb2 ?_
    clear hb2 hB1 hs1 hb1 w2 w1
    refine ol_nil (to_k0 (fun _ _ h => h) (hK3 _ _ ⟨.inr (by repeat' first | exact subH_nil | refine subH_same rfl ?_ | (refine subH_blk rfl (by repeat' first | exact sub_nil | refine sub_cons rfl ?_) ?_)), trivial⟩ ?_))
    clear hK3
    refine aq_three (i := 3) (j := 4) (l := 5) (by kernel_rfl) rfl rfl rfl (fun K4 hK4 => ?_) (fun K4 hK4 => ?_) (fun K4 hK4 => ?_)
    ·refine ol_call rfl rfl cb65 rfl (fun w1 hb1 hs1 hB1 => Calls.mono (match_pointOf _ _) ?_)
     rintro e w2 ⟨rfl, hb2⟩
     refine After.below rfl hb1 hs1 hB1 hb2 ?_
     clear hb2 hB1 hs1 hb1 w2 w1
     refine ol_nil (to_k0 (fun _ _ h => h) (hK4 _ _ ⟨.inr (by repeat' first | exact subH_nil | refine subH_same rfl ?_ | (refine subH_blk rfl (by repeat' first | exact sub_nil | refine sub_cons rfl ?_) ?_)), trivial⟩ ?_))
     clear hK4
     refine aq_two (i := 4) (j := 5) (by kernel_rfl) rfl rfl (fun K5 hK5 => ?_) (fun K5 hK5 => ?_)
     ·refine ol_alloc 8 z62 rfl fun b8 => ?_
      refine ol_nil (to_k0 (fun _ _ h => h) (hK5 _ _ ⟨.inr (by repeat' first | exact subH_nil | refine subH_same rfl ?_ | (refine subH_blk rfl (by repeat' first | exact sub_nil | refine sub_cons rfl ?_) ?_)), trivial⟩ ?_))
      clear hK5
      refine aq_one (i := 5) (by kernel_rfl) rfl fun K6 hK6 => ?_
      refine ol_alloc 9 z62 rfl fun b9 => ?_
      refine ol_nil (to_k0 (fun _ _ h => h) (hK6 _ _ ⟨.inr (by repeat' first | exact subH_nil | refine subH_same rfl ?_ | (refine subH_blk rfl (by repeat' first | exact sub_nil | refine sub_cons rfl ?_) ?_)), trivial⟩ ?_))
      clear hK6
      refine aq_one (i := 6) (by kernel_rfl) rfl fun K7 hK7 => ?_
      refine ol_store (id := 8) rfl rfl rfl rfl sz62 rfl rfl (by first | decide | exact Nat.zero_lt_succ _ | simp) ?_
      refine ol_nil (to_k0 (fun _ _ h => h) (hK7 _ _ ⟨.inr (by repeat' first | exact subH_nil | refine subH_same rfl ?_ | (refine subH_blk rfl (by repeat' first | exact sub_nil | refine sub_cons rfl ?_) ?_)), trivial⟩ ?_))
      clear hK7
      refine aq_one (i := 7) (by kernel_rfl) rfl fun K8 hK8 => ?_
      refine ol_store (id := 9) rfl rfl rfl rfl sz62 rfl rfl (by first | decide | exact Nat.zero_lt_succ _ | simp) ?_
      refine ol_nil (to_k0 (fun _ _ h => h) (hK8 _ _ ⟨.inr (by repeat' first | exact subH_nil | refine subH_same rfl ?_ | (refine subH_blk rfl (by repeat' first | exact sub_nil | refine sub_cons rfl ?_) ?_)), trivial⟩ ?_))
      clear hK8
      refine aq_done (by kernel_rfl) ?_
      refine (to_k0 (fun _ _ h => h) (hK2 ((b8, b9)) _ _ ?_ (sub_cons rfl (sub_cons rfl sub_nil)) (sub_cons rfl (sub_cons rfl (sub_cons rfl sub_nil))) (subH_blk rfl (by repeat' first | exact sub_nil | refine sub_cons rfl ?_) (subH_blk rfl (by repeat' first | exact sub_nil | refine sub_cons rfl ?_) subH_nil)) (subH_same rfl (subH_same rfl (subH_same rfl (subH_same rfl subH_nil))))))
      try dsimp only
      all_goals trivial
     ·refine ol_alloc 9 z62 rfl fun b9 => ?_
      refine ol_nil (to_k0 (fun _ _ h => h) (hK5 _ _ ⟨.inr (by repeat' first | exact subH_nil | refine subH_same rfl ?_ | (refine subH_blk rfl (by repeat' first | exact sub_nil | refine sub_cons rfl ?_) ?_)), trivial⟩ ?_))
      clear hK5
      refine aq_one (i := 4) (by kernel_rfl) rfl fun K6 hK6 => ?_
      refine ol_alloc 8 z62 rfl fun b8 => ?_
      refine ol_nil (to_k0 (fun _ _ h => h) (hK6 _ _ ⟨.inr (by repeat' first | exact subH_nil | refine subH_same rfl ?_ | (refine subH_blk rfl (by repeat' first | exact sub_nil | refine sub_cons rfl ?_) ?_)), trivial⟩ ?_))
      clear hK6
      refine aq_one (i := 6) (by kernel_rfl) rfl fun K7 hK7 => ?_
      refine ol_store (id := 8) rfl rfl rfl rfl sz62 rfl rfl (by first | decide | exact Nat.zero_lt_succ _ | simp) ?_
      refine ol_nil (to_k0 (fun _ _ h => h) (hK7 _ _ ⟨.inr (by repeat' first | exact subH_nil | refine subH_same rfl ?_ | (refine subH_blk rfl (by repeat' first | exact sub_nil | refine sub_cons rfl ?_) ?_)), trivial⟩ ?_))
      clear hK7
      refine aq_one (i := 7) (by kernel_rfl) rfl fun K8 hK8 => ?_
      refine ol_store (id := 9) rfl rfl rfl rfl sz62 rfl rfl (by first | decide | exact Nat.zero_lt_succ _ | simp) ?_
      refine ol_nil (to_k0 (fun _ _ h => h) (hK8 _ _ ⟨.inr (by repeat' first | exact subH_nil | refine subH_same rfl ?_ | (refine subH_blk rfl (by repeat' first | exact sub_nil | refine sub_cons rfl ?_) ?_)), trivial⟩ ?_))
      clear hK8
      refine aq_done (by kernel_rfl) ?_
      refine (to_k0 (fun _ _ h => h) (hK2 ((b8, b9)) _ _ ?_ (sub_cons rfl (sub_cons rfl sub_nil)) (sub_cons rfl (sub_cons rfl (sub_cons rfl sub_nil))) (subH_blk rfl (by repeat' first | exact sub_nil | refine sub_cons rfl ?_) (subH_blk rfl (by repeat' first | exact sub_nil | refine sub_cons rfl ?_) subH_nil)) (subH_same rfl (subH_same rfl (subH_same rfl (subH_same rfl subH_nil))))))
      try dsimp only
      all_goals trivial
    ·refine ol_alloc 8 z62 rfl fun b8 => ?_
     refine ol_nil (to_k0 (fun _ _ h => h) (hK4 _ _ ⟨.inr (by repeat' first | exact subH_nil | refine subH_same rfl ?_ | (refine subH_blk rfl (by repeat' first | exact sub_nil | refine sub_cons rfl ?_) ?_)), trivial⟩ ?_))
     clear hK4
     refine aq_two (i := 3) (j := 5) (by kernel_rfl) rfl rfl (fun K5 hK5 => ?_) (fun K5 hK5 => ?_)
     ·refine ol_call rfl rfl cb65 rfl (fun w1 hb1 hs1 hB1 => Calls.mono (match_pointOf _ _) ?_)
      rintro e w2 ⟨rfl, hb2⟩
      refine After.below rfl hb1 hs1 hB1 hb2 ?_
      clear hb2 hB1 hs1 hb1 w2 w1
      refine ol_nil (to_k0 (fun _ _ h => h) (hK5 _ _ ⟨.inr (by repeat' first | exact subH_nil | refine subH_same rfl ?_ | (refine subH_blk rfl (by repeat' first | exact sub_nil | refine sub_cons rfl ?_) ?_)), trivial⟩ ?_))
      clear hK5
      refine aq_one (i := 5) (by kernel_rfl) rfl fun K6 hK6 => ?_
      refine ol_alloc 9 z62 rfl fun b9 => ?_
      refine ol_nil (to_k0 (fun _ _ h => h) (hK6 _ _ ⟨.inr (by repeat' first | exact subH_nil | refine subH_same rfl ?_ | (refine subH_blk rfl (by repeat' first | exact sub_nil | refine sub_cons rfl ?_) ?_)), trivial⟩ ?_))
      clear hK6
      refine aq_one (i := 6) (by kernel_rfl) rfl fun K7 hK7 => ?_
      refine ol_store (id := 8) rfl rfl rfl rfl sz62 rfl rfl (by first | decide | exact Nat.zero_lt_succ _ | simp) ?_
      refine ol_nil (to_k0 (fun _ _ h => h) (hK7 _ _ ⟨.inr (by repeat' first | exact subH_nil | refine subH_same rfl ?_ | (refine subH_blk rfl (by repeat' first | exact sub_nil | refine sub_cons rfl ?_) ?_)), trivial⟩ ?_))
      clear hK7
      refine aq_one (i := 7) (by kernel_rfl) rfl fun K8 hK8 => ?_
      refine ol_store (id := 9) rfl rfl rfl rfl sz62 rfl rfl (by first | decide | exact Nat.zero_lt_succ _ | simp) ?_
      refine ol_nil (to_k0 (fun _ _ h => h) (hK8 _ _ ⟨.inr (by repeat' first | exact subH_nil | refine subH_same rfl ?_ | (refine subH_blk rfl (by repeat' first | exact sub_nil | refine sub_cons rfl ?_) ?_)), trivial⟩ ?_))
      clear hK8
      refine aq_done (by kernel_rfl) ?_
      refine (to_k0 (fun _ _ h => h) (hK2 ((b8, b9)) _ _ ?_ (sub_cons rfl (sub_cons rfl sub_nil)) (sub_cons rfl (sub_cons rfl (sub_cons rfl sub_nil))) (subH_blk rfl (by repeat' first | exact sub_nil | refine sub_cons rfl ?_) (subH_blk rfl (by repeat' first | exact sub_nil | refine sub_cons rfl ?_) subH_nil)) (subH_same rfl (subH_same rfl (subH_same rfl (subH_same rfl subH_nil))))))
      try dsimp only
      all_goals trivial
     ·refine ol_alloc 9 z62 rfl fun b9 => ?_
      refine ol_nil (to_k0 (fun _ _ h => h) (hK5 _ _ ⟨.inr (by repeat' first | exact subH_nil | refine subH_same rfl ?_ | (refine subH_blk rfl (by repeat' first | exact sub_nil | refine sub_cons rfl ?_) ?_)), trivial⟩ ?_))
      clear hK5
      refine aq_one (i := 3) (by kernel_rfl) rfl fun K6 hK6 => ?_
      refine ol_call rfl rfl cb65 rfl (fun w1 hb1 hs1 hB1 => Calls.mono (match_pointOf _ _) ?_)
      rintro e w2 ⟨rfl, hb2⟩
      refine After.below rfl hb1 hs1 hB1 hb2 ?_
      clear hb2 hB1 hs1 hb1 w2 w1
      refine ol_nil (to_k0 (fun _ _ h => h) (hK6 _ _ ⟨.inr (by repeat' first | exact subH_nil | refine subH_same rfl ?_ | (refine subH_blk rfl (by repeat' first | exact sub_nil | refine sub_cons rfl ?_) ?_)), trivial⟩ ?_))
      clear hK6
      refine aq_one (i := 6) (by kernel_rfl) rfl fun K7 hK7 => ?_
      refine ol_store (id := 8) rfl rfl rfl rfl sz62 rfl rfl (by first | decide | exact Nat.zero_lt_succ _ | simp) ?_
      refine ol_nil (to_k0 (fun _ _ h => h) (hK7 _ _ ⟨.inr (by repeat' first | exact subH_nil | refine subH_same rfl ?_ | (refine subH_blk rfl (by repeat' first | exact sub_nil | refine sub_cons rfl ?_) ?_)), trivial⟩ ?_))
      clear hK7
      refine aq_one (i := 7) (by kernel_rfl) rfl fun K8 hK8 => ?_
      refine ol_store (id := 9) rfl rfl rfl rfl sz62 rfl rfl (by first | decide | exact Nat.zero_lt_succ _ | simp) ?_
      refine ol_nil (to_k0 (fun _ _ h => h) (hK8 _ _ ⟨.inr (by repeat' first | exact subH_nil | refine subH_same rfl ?_ | (refine subH_blk rfl (by repeat' first | exact sub_nil | refine sub_cons rfl ?_) ?_)), trivial⟩ ?_))
      clear hK8
      refine aq_done (by kernel_rfl) ?_
      refine (to_k0 (fun _ _ h => h) (hK2 ((b8, b9)) _ _ ?_ (sub_cons rfl (sub_cons rfl sub_nil)) (sub_cons rfl (sub_cons rfl (sub_cons rfl sub_nil))) (subH_blk rfl (by repeat' first | exact sub_nil | refine sub_cons rfl ?_) (subH_blk rfl (by repeat' first | exact sub_nil | refine sub_cons rfl ?_) subH_nil)) (subH_same rfl (subH_same rfl (subH_same rfl (subH_same rfl subH_nil))))))
      try dsimp only
      all_goals trivial
    ·refine ol_alloc 9 z62 rfl fun b9 => ?_
     refine ol_nil (to_k0 (fun _ _ h => h) (hK4 _ _ ⟨.inr (by repeat' first | exact subH_nil | refine subH_same rfl ?_ | (refine subH_blk rfl (by repeat' first | exact sub_nil | refine sub_cons rfl ?_) ?_)), trivial⟩ ?_))
     clear hK4
     refine aq_two (i := 3) (j := 4) (by kernel_rfl) rfl rfl (fun K5 hK5 => ?_) (fun K5 hK5 => ?_)
     ·refine ol_call rfl rfl cb65 rfl (fun w1 hb1 hs1 hB1 => Calls.mono (match_pointOf _ _) ?_)
      rintro e w2 ⟨rfl, hb2⟩
      refine After.below rfl hb1 hs1 hB1 hb2 ?_
      clear hb2 hB1 hs1 hb1 w2 w1
      refine ol_nil (to_k0 (fun _ _ h => h) (hK5 _ _ ⟨.inr (by repeat' first | exact subH_nil | refine subH_same rfl ?_ | (refine subH_blk rfl (by repeat' first | exact sub_nil | refine sub_cons rfl ?_) ?_)), trivial⟩ ?_))
      clear hK5
      refine aq_one (i := 4) (by kernel_rfl) rfl fun K6 hK6 => ?_
      refine ol_alloc 8 z62 rfl fun b8 => ?_
      refine ol_nil (to_k0 (fun _ _ h => h) (hK6 _ _ ⟨.inr (by repeat' first | exact subH_nil | refine subH_same rfl ?_ | (refine subH_blk rfl (by repeat' first | exact sub_nil | refine sub_cons rfl ?_) ?_)), trivial⟩ ?_))
      clear hK6
      refine aq_one (i := 6) (by kernel_rfl) rfl fun K7 hK7 => ?_
      refine ol_store (id := 8) rfl rfl rfl rfl sz62 rfl rfl (by first | decide | exact Nat.zero_lt_succ _ | simp) ?_
      refine ol_nil (to_k0 (fun _ _ h => h) (hK7 _ _ ⟨.inr (by repeat' first | exact subH_nil | refine subH_same rfl ?_ | (refine subH_blk rfl (by repeat' first | exact sub_nil | refine sub_cons rfl ?_) ?_)), trivial⟩ ?_))
      clear hK7
      refine aq_one (i := 7) (by kernel_rfl) rfl fun K8 hK8 => ?_
      refine ol_store (id := 9) rfl rfl rfl rfl sz62 rfl rfl (by first | decide | exact Nat.zero_lt_succ _ | simp) ?_
      refine ol_nil (to_k0 (fun _ _ h => h) (hK8 _ _ ⟨.inr (by repeat' first | exact subH_nil | refine subH_same rfl ?_ | (refine subH_blk rfl (by repeat' first | exact sub_nil | refine sub_cons rfl ?_) ?_)), trivial⟩ ?_))
      clear hK8
      refine aq_done (by kernel_rfl) ?_
      refine (to_k0 (fun _ _ h => h) (hK2 ((b8, b9)) _ _ ?_ (sub_cons rfl (sub_cons rfl sub_nil)) (sub_cons rfl (sub_cons rfl (sub_cons rfl sub_nil))) (subH_blk rfl (by repeat' first | exact sub_nil | refine sub_cons rfl ?_) (subH_blk rfl (by repeat' first | exact sub_nil | refine sub_cons rfl ?_) subH_nil)) (subH_same rfl (subH_same rfl (subH_same rfl (subH_same rfl subH_nil))))))
      try dsimp only
      all_goals trivial
     ·refine ol_alloc 8 z62 rfl fun b8 => ?_
      refine ol_nil (to_k0 (fun _ _ h => h) (hK5 _ _ ⟨.inr (by repeat' first | exact subH_nil | refine subH_same rfl ?_ | (refine subH_blk rfl (by repeat' first | exact sub_nil | refine sub_cons rfl ?_) ?_)), trivial⟩ ?_))
      clear hK5
      refine aq_one (i := 3) (by kernel_rfl) rfl fun K6 hK6 => ?_
      refine ol_call rfl rfl cb65 rfl (fun w1 hb1 hs1 hB1 => Calls.mono (match_pointOf _ _) ?_)
      rintro e w2 ⟨rfl, hb2⟩
      refine After.below rfl hb1 hs1 hB1 hb2 ?_
      clear hb2 hB1 hs1 hb1 w2 w1
      refine ol_nil (to_k0 (fun _ _ h => h) (hK6 _ _ ⟨.inr (by repeat' first | exact subH_nil | refine subH_same rfl ?_ | (refine subH_blk rfl (by repeat' first | exact sub_nil | refine sub_cons rfl ?_) ?_)), trivial⟩ ?_))
      clear hK6
      refine aq_one (i := 6) (by kernel_rfl) rfl fun K7 hK7 => ?_
      refine ol_store (id := 8) rfl rfl rfl rfl sz62 rfl rfl (by first | decide | exact Nat.zero_lt_succ _ | simp) ?_
      refine ol_nil (to_k0 (fun _ _ h => h) (hK7 _ _ ⟨.inr (by repeat' first | exact subH_nil | refine subH_same rfl ?_ | (refine subH_blk rfl (by repeat' first | exact sub_nil | refine sub_cons rfl ?_) ?_)), trivial⟩ ?_))
      clear hK7
      refine aq_one (i := 7) (by kernel_rfl) rfl fun K8 hK8 => ?_
      refine ol_store (id := 9) rfl rfl rfl rfl sz62 rfl rfl (by first | decide | exact Nat.zero_lt_succ _ | simp) ?_
      refine ol_nil (to_k0 (fun _ _ h => h) (hK8 _ _ ⟨.inr (by repeat' first | exact subH_nil | refine subH_same rfl ?_ | (refine subH_blk rfl (by repeat' first | exact sub_nil | refine sub_cons rfl ?_) ?_)), trivial⟩ ?_))
      clear hK8
      refine aq_done (by kernel_rfl) ?_
      refine (to_k0 (fun _ _ h => h) (hK2 ((b8, b9)) _ _ ?_ (sub_cons rfl (sub_cons rfl sub_nil)) (sub_cons rfl (sub_cons rfl (sub_cons rfl sub_nil))) (subH_blk rfl (by repeat' first | exact sub_nil | refine sub_cons rfl ?_) (subH_blk rfl (by repeat' first | exact sub_nil | refine sub_cons rfl ?_) subH_nil)) (subH_same rfl (subH_same rfl (subH_same rfl (subH_same rfl subH_nil))))))
      try dsimp only
      all_goals trivial
   ·refine ol_alloc 8 z62 rfl fun b8 => ?_
    refine ol_nil (to_k0 (fun _ _ h => h) (hK3 _ _ ⟨.inr (by repeat' first | exact subH_nil | refine subH_same rfl ?_ | (refine subH_blk rfl (by repeat' first | exact sub_nil | refine sub_cons rfl ?_) ?_)), trivial⟩ ?_))
    clear hK3
    refine aq_two (i := 1) (j := 5) (by kernel_rfl) rfl rfl (fun K4 hK4 => ?_) (fun K4 hK4 => ?_)
    ·refine ol_call rfl rfl cb65 rfl (fun w1 hb1 hs1 hB1 => Calls.mono (match_pointOf _ _) ?_)
     rintro e w2 ⟨rfl, hb2⟩
     refine After.below rfl hb1 hs1 hB1 hb2 ?_
     clear hb2 hB1 hs1 hb1 w2 w1
     refine ol_nil (to_k0 (fun _ _ h => h) (hK4 _ _ ⟨.inr (by repeat' first | exact subH_nil | refine subH_same rfl ?_ | (refine subH_blk rfl (by repeat' first | exact sub_nil | refine sub_cons rfl ?_) ?_)), trivial⟩ ?_))
     clear hK4
     refine aq_two (i := 3) (j := 5) (by kernel_rfl) rfl rfl (fun K5 hK5 => ?_) (fun K5 hK5 => ?_)
     ·refine ol_call rfl rfl cb65 rfl (fun w1 hb1 hs1 hB1 => Calls.mono (match_pointOf _ _) ?_)
      rintro e w2 ⟨rfl, hb2⟩
      refine After.below rfl hb1 hs1 hB1 hb2 ?_
      clear hb2 hB1 hs1 hb1 w2 w1
      refine ol_nil (to_k0 (fun _ _ h => h) (hK5 _ _ ⟨.inr (by repeat' first | exact subH_nil | refine subH_same rfl ?_ | (refine subH_blk rfl (by repeat' first | exact sub_nil | refine sub_cons rfl ?_) ?_)), trivial⟩ ?_))
      clear hK5
      refine aq_one (i := 5) (by kernel_rfl) rfl fun K6 hK6 => ?_
      refine ol_alloc 9 z62 rfl fun b9 => ?_
      refine ol_nil (to_k0 (fun _ _ h => h) (hK6 _ _ ⟨.inr (by repeat' first | exact subH_nil | refine subH_same rfl ?_ | (refine subH_blk rfl (by repeat' first | exact sub_nil | refine sub_cons rfl ?_) ?_)), trivial⟩ ?_))
      clear hK6
      refine aq_one (i := 6) (by kernel_rfl) rfl fun K7 hK7 => ?_
      refine ol_store (id := 8) rfl rfl rfl rfl sz62 rfl rfl (by first | decide | exact Nat.zero_lt_succ _ | simp) ?_
      refine ol_nil (to_k0 (fun _ _ h => h) (hK7 _ _ ⟨.inr (by repeat' first | exact subH_nil | refine subH_same rfl ?_ | (refine subH_blk rfl (by repeat' first | exact sub_nil | refine sub_cons rfl ?_) ?_)), trivial⟩ ?_))
      clear hK7
      refine aq_one (i := 7) (by kernel_rfl) rfl fun K8 hK8 => ?_
      refine ol_store (id := 9) rfl rfl rfl rfl sz62 rfl rfl (by first | decide | exact Nat.zero_lt_succ _ | simp) ?_
      refine ol_nil (to_k0 (fun _ _ h => h) (hK8 _ _ ⟨.inr (by repeat' first | exact subH_nil | refine subH_same rfl ?_ | (refine subH_blk rfl (by repeat' first | exact sub_nil | refine sub_cons rfl ?_) ?_)), trivial⟩ ?_))
      clear hK8
      refine aq_done (by kernel_rfl) ?_
      refine (to_k0 (fun _ _ h => h) (hK2 ((b8, b9)) _ _ ?_ (sub_cons rfl (sub_cons rfl sub_nil)) (sub_cons rfl (sub_cons rfl (sub_cons rfl sub_nil))) (subH_blk rfl (by repeat' first | exact sub_nil | refine sub_cons rfl ?_) (subH_blk rfl (by repeat' first | exact sub_nil | refine sub_cons rfl ?_) subH_nil)) (subH_same rfl (subH_same rfl (subH_same rfl (subH_same rfl subH_nil))))))
      try dsimp only
      all_goals trivial
     ·refine ol_alloc 9 z62 rfl fun b9 => ?_
      refine ol_nil (to_k0 (fun _ _ h => h) (hK5 _ _ ⟨.inr (by repeat' first | exact subH_nil | refine subH_same rfl ?_ | (refine subH_blk rfl (by repeat' first | exact sub_nil | refine sub_cons rfl ?_) ?_)), trivial⟩ ?_))
      clear hK5
      refine aq_one (i := 3) (by kernel_rfl) rfl fun K6 hK6 => ?_
      refine ol_call rfl rfl cb65 rfl (fun w1 hb1 hs1 hB1 => Calls.mono (match_pointOf _ _) ?_)
      rintro e w2 ⟨rfl, hb2⟩
      refine After.below rfl hb1 hs1 hB1 hb2 ?_
      clear hb2 hB1 hs1 hb1 w2 w1
      refine ol_nil (to_k0 (fun _ _ h => h) (hK6 _ _ ⟨.inr (by repeat' first | exact subH_nil | refine subH_same rfl ?_ | (refine subH_blk rfl (by repeat' first | exact sub_nil | refine sub_cons rfl ?_) ?_)), trivial⟩ ?_))
      clear hK6
      refine aq_one (i := 6) (by kernel_rfl) rfl fun K7 hK7 => ?_
      refine ol_store (id := 8) rfl rfl rfl rfl sz62 rfl rfl (by first | decide | exact Nat.zero_lt_succ _ | simp) ?_
      refine ol_nil (to_k0 (fun _ _ h => h) (hK7 _ _ ⟨.inr (by repeat' first | exact subH_nil | refine subH_same rfl ?_ | (refine subH_blk rfl (by repeat' first | exact sub_nil | refine sub_cons rfl ?_) ?_)), trivial⟩ ?_))
      clear hK7
      refine aq_one (i := 7) (by kernel_rfl) rfl fun K8 hK8 => ?_
      refine ol_store (id := 9) rfl rfl rfl rfl sz62 rfl rfl (by first | decide | exact Nat.zero_lt_succ _ | simp) ?_
      refine ol_nil (to_k0 (fun _ _ h => h) (hK8 _ _ ⟨.inr (by repeat' first | exact subH_nil | refine subH_same rfl ?_ | (refine subH_blk rfl (by repeat' first | exact sub_nil | refine sub_cons rfl ?_) ?_)), trivial⟩ ?_))
      clear hK8
      refine aq_done (by kernel_rfl) ?_
      refine (to_k0 (fun _ _ h => h) (hK2 ((b8, b9)) _ _ ?_ (sub_cons rfl (sub_cons rfl sub_nil)) (sub_cons rfl (sub_cons rfl (sub_cons rfl sub_nil))) (subH_blk rfl (by repeat' first | exact sub_nil | refine sub_cons rfl ?_) (subH_blk rfl (by repeat' first | exact sub_nil | refine sub_cons rfl ?_) subH_nil)) (subH_same rfl (subH_same rfl (subH_same rfl (subH_same rfl subH_nil))))))
      try dsimp only
      all_goals trivial
    ·refine ol_alloc 9 z62 rfl fun b9 => ?_
     refine ol_nil (to_k0 (fun _ _ h => h) (hK4 _ _ ⟨.inr (by repeat' first | exact subH_nil | refine subH_same rfl ?_ | (refine subH_blk rfl (by repeat' first | exact sub_nil | refine sub_cons rfl ?_) ?_)), trivial⟩ ?_))
     clear hK4
     refine aq_one (i := 1) (by kernel_rfl) rfl fun K5 hK5 => ?_
     refine ol_call rfl rfl cb65 rfl (fun w1 hb1 hs1 hB1 => Calls.mono (match_pointOf _ _) ?_)
     rintro e w2 ⟨rfl, hb2⟩
     refine After.below rfl hb1 hs1 hB1 hb2 ?_
     clear hb2 hB1 hs1 hb1 w2 w1
     refine ol_nil (to_k0 (fun _ _ h => h) (hK5 _ _ ⟨.inr (by repeat' first | exact subH_nil | refine subH_same rfl ?_ | (refine subH_blk rfl (by repeat' first | exact sub_nil | refine sub_cons rfl ?_) ?_)), trivial⟩ ?_))
     clear hK5
     refine aq_one (i := 3) (by kernel_rfl) rfl fun K6 hK6 => ?_
     refine ol_call rfl rfl cb65 rfl (fun w1 hb1 hs1 hB1 => Calls.mono (match_pointOf _ _) ?_)
     rintro e w2 ⟨rfl, hb2⟩
     refine After.below rfl hb1 hs1 hB1 hb2 ?_
     clear hb2 hB1 hs1 hb1 w2 w1
     refine ol_nil (to_k0 (fun _ _ h => h) (hK6 _ _ ⟨.inr (by repeat' first | exact subH_nil | refine subH_same rfl ?_ | (refine subH_blk rfl (by repeat' first | exact sub_nil | refine sub_cons rfl ?_) ?_)), trivial⟩ ?_))
     clear hK6
     refine aq_one (i := 6) (by kernel_rfl) rfl fun K7 hK7 => ?_
     refine ol_store (id := 8) rfl rfl rfl rfl sz62 rfl rfl (by first | decide | exact Nat.zero_lt_succ _ | simp) ?_
     refine ol_nil (to_k0 (fun _ _ h => h) (hK7 _ _ ⟨.inr (by repeat' first | exact subH_nil | refine subH_same rfl ?_ | (refine subH_blk rfl (by repeat' first | exact sub_nil | refine sub_cons rfl ?_) ?_)), trivial⟩ ?_))
     clear hK7
     refine aq_one (i := 7) (by kernel_rfl) rfl fun K8 hK8 => ?_
     refine ol_store (id := 9) rfl rfl rfl rfl sz62 rfl rfl (by first | decide | exact Nat.zero_lt_succ _ | simp) ?_
     refine ol_nil (to_k0 (fun _ _ h => h) (hK8 _ _ ⟨.inr (by repeat' first | exact subH_nil | refine subH_same rfl ?_ | (refine subH_blk rfl (by repeat' first | exact sub_nil | refine sub_cons rfl ?_) ?_)), trivial⟩ ?_))
     clear hK8
     refine aq_done (by kernel_rfl) ?_
     refine (to_k0 (fun _ _ h => h) (hK2 ((b8, b9)) _ _ ?_ (sub_cons rfl (sub_cons rfl sub_nil)) (sub_cons rfl (sub_cons rfl (sub_cons rfl sub_nil))) (subH_blk rfl (by repeat' first | exact sub_nil | refine sub_cons rfl ?_) (subH_blk rfl (by repeat' first | exact sub_nil | refine sub_cons rfl ?_) subH_nil)) (subH_same rfl (subH_same rfl (subH_same rfl (subH_same rfl subH_nil))))))
     try dsimp only
     all_goals trivial
   ·refine ol_alloc 9 z62 rfl fun b9 => ?_
    refine ol_nil (to_k0 (fun _ _ h => h) (hK3 _ _ ⟨.inr (by repeat' first | exact subH_nil | refine subH_same rfl ?_ | (refine subH_blk rfl (by repeat' first | exact sub_nil | refine sub_cons rfl ?_) ?_)), trivial⟩ ?_))
    clear hK3
    refine aq_two (i := 1) (j := 4) (by kernel_rfl) rfl rfl (fun K4 hK4 => ?_) (fun K4 hK4 => ?_)
    ·refine ol_call rfl rfl cb65 rfl (fun w1 hb1 hs1 hB1 => Calls.mono (match_pointOf _ _) ?_)
     rintro e w2 ⟨rfl, hb2⟩
     refine After.below rfl hb1 hs1 hB1 hb2 ?_
     clear hb2 hB1 hs1 hb1 w2 w1
     refine ol_nil (to_k0 (fun _ _ h => h) (hK4 _ _ ⟨.inr (by repeat' first | exact subH_nil | refine subH_same rfl ?_ | (refine subH_blk rfl (by repeat' first | exact sub_nil | refine sub_cons rfl ?_) ?_)), trivial⟩ ?_))
     clear hK4
     refine aq_two (i := 3) (j := 4) (by kernel_rfl) rfl rfl (fun K5 hK5 => ?_) (fun K5 hK5 => ?_)
     ·refine ol_call rfl rfl cb65 rfl (fun w1 hb1 hs1 hB1 => Calls.mono (match_pointOf _ _) ?_)
      rintro e w2 ⟨rfl, hb2⟩
      refine After.below rfl hb1 hs1 hB1 hb2 ?_
      clear hb2 hB1 hs1 hb1 w2 w1
      refine ol_nil (to_k0 (fun _ _ h => h) (hK5 _ _ ⟨.inr (by repeat' first | exact subH_nil | refine subH_same rfl ?_ | (refine subH_blk rfl (by repeat' first | exact sub_nil | refine sub_cons rfl ?_) ?_)), trivial⟩ ?_))
      clear hK5
      refine aq_one (i := 4) (by kernel_rfl) rfl fun K6 hK6 => ?_
      refine ol_alloc 8 z62 rfl fun b8 => ?_
      refine ol_nil (to_k0 (fun _ _ h => h) (hK6 _ _ ⟨.inr (by repeat' first | exact subH_nil | refine subH_same rfl ?_ | (refine subH_blk rfl (by repeat' first | exact sub_nil | refine sub_cons rfl ?_) ?_)), trivial⟩ ?_))
      clear hK6
      refine aq_one (i := 6) (by kernel_rfl) rfl fun K7 hK7 => ?_
      refine ol_store (id := 8) rfl rfl rfl rfl sz62 rfl rfl (by first | decide | exact Nat.zero_lt_succ _ | simp) ?_
      refine ol_nil (to_k0 (fun _ _ h => h) (hK7 _ _ ⟨.inr (by repeat' first | exact subH_nil | refine subH_same rfl ?_ | (refine subH_blk rfl (by repeat' first | exact sub_nil | refine sub_cons rfl ?_) ?_)), trivial⟩ ?_))
      clear hK7
      refine aq_one (i := 7) (by kernel_rfl) rfl fun K8 hK8 => ?_
      refine ol_store (id := 9) rfl rfl rfl rfl sz62 rfl rfl (by first | decide | exact Nat.zero_lt_succ _ | simp) ?_
      refine ol_nil (to_k0 (fun _ _ h => h) (hK8 _ _ ⟨.inr (by repeat' first | exact subH_nil | refine subH_same rfl ?_ | (refine subH_blk rfl (by repeat' first | exact sub_nil | refine sub_cons rfl ?_) ?_)), trivial⟩ ?_))
      clear hK8
      refine aq_done (by kernel_rfl) ?_
      refine (to_k0 (fun _ _ h => h) (hK2 ((b8, b9)) _ _ ?_ (sub_cons rfl (sub_cons rfl sub_nil)) (sub_cons rfl (sub_cons rfl (sub_cons rfl sub_nil))) (subH_blk rfl (by repeat' first | exact sub_nil | refine sub_cons rfl ?_) (subH_blk rfl (by repeat' first | exact sub_nil | refine sub_cons rfl ?_) subH_nil)) (subH_same rfl (subH_same rfl (subH_same rfl (subH_same rfl subH_nil))))))
      try dsimp only
      all_goals trivial
     ·refine ol_alloc 8 z62 rfl fun b8 => ?_
      refine ol_nil (to_k0 (fun _ _ h => h) (hK5 _ _ ⟨.inr (by repeat' first | exact subH_nil | refine subH_same rfl ?_ | (refine subH_blk rfl (by repeat' first | exact sub_nil | refine sub_cons rfl ?_) ?_)), trivial⟩ ?_))
      clear hK5
      refine aq_one (i := 3) (by kernel_rfl) rfl fun K6 hK6 => ?_
      refine ol_call rfl rfl cb65 rfl (fun w1 hb1 hs1 hB1 => Calls.mono (match_pointOf _ _) ?_)
      rintro e w2 ⟨rfl, hb2⟩
      refine After.below rfl hb1 hs1 hB1 hb2 ?_
      clear hb2 hB1 hs1 hb1 w2 w1
      refine ol_nil (to_k0 (fun _ _ h => h) (hK6 _ _ ⟨.inr (by repeat' first | exact subH_nil | refine subH_same rfl ?_ | (refine subH_blk rfl (by repeat' first | exact sub_nil | refine sub_cons rfl ?_) ?_)), trivial⟩ ?_))
      clear hK6
      refine aq_one (i := 6) (by kernel_rfl) rfl fun K7 hK7 => ?_
      refine ol_store (id := 8) rfl rfl rfl rfl sz62 rfl rfl (by first | decide | exact Nat.zero_lt_succ _ | simp) ?_
      refine ol_nil (to_k0 (fun _ _ h => h) (hK7 _ _ ⟨.inr (by repeat' first | exact subH_nil | refine subH_same rfl ?_ | (refine subH_blk rfl (by repeat' first | exact sub_nil | refine sub_cons rfl ?_) ?_)), trivial⟩ ?_))
      clear hK7
      refine aq_one (i := 7) (by kernel_rfl) rfl fun K8 hK8 => ?_
      refine ol_store (id := 9) rfl rfl rfl rfl sz62 rfl rfl (by first | decide | exact Nat.zero_lt_succ _ | simp) ?_
      refine ol_nil (to_k0 (fun _ _ h => h) (hK8 _ _ ⟨.inr (by repeat' first | exact subH_nil | refine subH_same rfl ?_ | (refine subH_blk rfl (by repeat' first | exact sub_nil | refine sub_cons rfl ?_) ?_)), trivial⟩ ?_))
      clear hK8
      refine aq_done (by kernel_rfl) ?_
      refine (to_k0 (fun _ _ h => h) (hK2 ((b8, b9)) _ _ ?_ (sub_cons rfl (sub_cons rfl sub_nil)) (sub_cons rfl (sub_cons rfl (sub_cons rfl sub_nil))) (subH_blk rfl (by repeat' first | exact sub_nil | refine sub_cons rfl ?_) (subH_blk rfl (by repeat' first | exact sub_nil | refine sub_cons rfl ?_) subH_nil)) (subH_same rfl (subH_same rfl (subH_same rfl (subH_same rfl subH_nil))))))
      try dsimp only
      all_goals trivial
    ·refine ol_alloc 8 z62 rfl fun b8 => ?_
     refine ol_nil (to_k0 (fun _ _ h => h) (hK4 _ _ ⟨.inr (by repeat' first | exact subH_nil | refine subH_same rfl ?_ | (refine subH_blk rfl (by repeat' first | exact sub_nil | refine sub_cons rfl ?_) ?_)), trivial⟩ ?_))
     clear hK4
     refine aq_one (i := 1) (by kernel_rfl) rfl fun K5 hK5 => ?_
     refine ol_call rfl rfl cb65 rfl (fun w1 hb1 hs1 hB1 => Calls.mono (match_pointOf _ _) ?_)
     rintro e w2 ⟨rfl, hb2⟩
     refine After.below rfl hb1 hs1 hB1 hb2 ?_
     clear hb2 hB1 hs1 hb1 w2 w1
     refine ol_nil (to_k0 (fun _ _ h => h) (hK5 _ _ ⟨.inr (by repeat' first | exact subH_nil | refine subH_same rfl ?_ | (refine subH_blk rfl (by repeat' first | exact sub_nil | refine sub_cons rfl ?_) ?_)), trivial⟩ ?_))
     clear hK5
     refine aq_one (i := 3) (by kernel_rfl) rfl fun K6 hK6 => ?_
     refine ol_call rfl rfl cb65 rfl (fun w1 hb1 hs1 hB1 => Calls.mono (match_pointOf _ _) ?_)
     rintro e w2 ⟨rfl, hb2⟩
     refine After.below rfl hb1 hs1 hB1 hb2 ?_
     clear hb2 hB1 hs1 hb1 w2 w1
     refine ol_nil (to_k0 (fun _ _ h => h) (hK6 _ _ ⟨.inr (by repeat' first | exact subH_nil | refine subH_same rfl ?_ | (refine subH_blk rfl (by repeat' first | exact sub_nil | refine sub_cons rfl ?_) ?_)), trivial⟩ ?_))
     clear hK6
     refine aq_one (i := 6) (by kernel_rfl) rfl fun K7 hK7 => ?_
     refine ol_store (id := 8) rfl rfl rfl rfl sz62 rfl rfl (by first | decide | exact Nat.zero_lt_succ _ | simp) ?_
     refine ol_nil (to_k0 (fun _ _ h => h) (hK7 _ _ ⟨.inr (by repeat' first | exact subH_nil | refine subH_same rfl ?_ | (refine subH_blk rfl (by repeat' first | exact sub_nil | refine sub_cons rfl ?_) ?_)), trivial⟩ ?_))
     clear hK7
     refine aq_one (i := 7) (by kernel_rfl) rfl fun K8 hK8 => ?_
     refine ol_store (id := 9) rfl rfl rfl rfl sz62 rfl rfl (by first | decide | exact Nat.zero_lt_succ _ | simp) ?_
     refine ol_nil (to_k0 (fun _ _ h => h) (hK8 _ _ ⟨.inr (by repeat' first | exact subH_nil | refine subH_same rfl ?_ | (refine subH_blk rfl (by repeat' first | exact sub_nil | refine sub_cons rfl ?_) ?_)), trivial⟩ ?_))
     clear hK8
     refine aq_done (by kernel_rfl) ?_
     refine (to_k0 (fun _ _ h => h) (hK2 ((b8, b9)) _ _ ?_ (sub_cons rfl (sub_cons rfl sub_nil)) (sub_cons rfl (sub_cons rfl (sub_cons rfl sub_nil))) (subH_blk rfl (by repeat' first | exact sub_nil | refine sub_cons rfl ?_) (subH_blk rfl (by repeat' first | exact sub_nil | refine sub_cons rfl ?_) subH_nil)) (subH_same rfl (subH_same rfl (subH_same rfl (subH_same rfl subH_nil))))))
     try dsimp only
     all_goals trivial
  ·rintro ⟨b8, b9⟩ _
   dsimp only
   refine wp_seq' fun K9 hK9 => ?_
   refine wp_regq (by kernel_rfl) (by kernel_rfl) ?_
   refine ql_r (r_fa (o' := 0) rfl fl75_0 rfl) rfl ?_
   refine ql_r (r_lda (id := 3) (n := 2) rfl rfl rfl ag62) rfl ?_
   refine ql_r (r_fa (o' := 2) rfl fl75_1 rfl) rfl ?_
   refine ql_r (r_lda (id := 3) (n := 2) rfl rfl rfl ag62) rfl ?_
   refine ql_r (r_lda (id := 8) (n := 2) rfl rfl rfl ag62) rfl ?_
   refine ql_call rfl rfl cb100 rfl (fun w1 hb1 hs1 hB1 => match_sideOf _ _ _ _ _ _ _ (by assumption) (by assumption) (by assumption) (by assumption) (by assumption) (by assumption)) ?_
   refine ql_r (r_fa (o' := 0) rfl fl75_0 rfl) rfl ?_
   refine ql_r (r_lda (id := 3) (n := 2) rfl rfl rfl ag62) rfl ?_
   refine ql_r (r_fa (o' := 2) rfl fl75_1 rfl) rfl ?_
   refine ql_r (r_lda (id := 3) (n := 2) rfl rfl rfl ag62) rfl ?_
   refine ql_r (r_lda (id := 9) (n := 2) rfl rfl rfl ag62) rfl ?_
   refine ql_call rfl rfl cb100 rfl (fun w1 hb1 hs1 hB1 => match_sideOf _ _ _ _ _ _ _ (by assumption) (by assumption) (by assumption) (by assumption) (by assumption) (by assumption)) ?_
   refine ql_r (r_assign rfl) rfl ?_
   refine ql_r (r_assign rfl) rfl ?_
   refine ql_nil (to_k0 (fun _ _ h => h) (hK9 _ _ _ _ _ ?_))
   clear hK9
   refine wp_seq' fun K10 hK10 => ?_
   refine wp_seq' fun K11 hK11 => ?_
   refine wp_reg ?_
   refine ol_r (r_move rfl) rfl ?_
   refine ol_r (r_geq rfl rfl) rfl ?_
   refine ol_r (r_move rfl) rfl ?_
   refine ol_split (d := 32) rfl (fun hs32 => ?_) (fun hs32 => ?_)
   ·have phs32 := hs32; try simp only [decide_eq_true_eq, decide_eq_false_iff_not, Bool.not_eq_true', Bool.not_eq_false', Bool.not_true, Bool.not_false] at phs32
    refine ol_s rfl rfl hs32 rfl ?_
    refine ol_s rfl rfl hs32 rfl ?_
    refine ol_r (r_pickT rfl hs32 rfl) rfl ?_
    refine ol_nil (to_k0 (fun _ _ h => h) (hK11 _ _ _ _ _ ?_))
    clear hK11
    refine wp_condT rfl ?_
    refine wp_seq' fun K12 hK12 => ?_
    refine wp_reg ?_
    refine ol_r (r_build rfl (fun _ => bd112 _)) rfl ?_
    refine ol_store (id := 6) rfl rfl rfl rfl sz112 rfl rfl (by first | decide | exact Nat.zero_lt_succ _ | simp) ?_
    refine ol_r (r_assign rfl) rfl ?_
    refine ol_nil (to_k0 (fun _ _ h => h) (hK12 _ _ _ _ _ ?_))
    clear hK12
    refine hQ.ret (rvs2 (rv_c (id := 6) (n := 2) rfl rfl ag112 rfl) (rv_t rfl)) (fun _ _ h => h) fun w hb hs hB hkd => ?_
    first
      | (have hc : crB g p q = false := by
           unfold crB gSide
           simp only [Bool.and_eq_false_iff, Bool.not_eq_false', Bool.or_eq_true, Bool.and_eq_true, decide_eq_true_eq]
           omega
         exact ⟨by rw [partOf, hc]; rfl, hb⟩)
   ·have phs32 := hs32; try simp only [decide_eq_true_eq, decide_eq_false_iff_not, Bool.not_eq_true', Bool.not_eq_false', Bool.not_true, Bool.not_false] at phs32
    refine ol_g rfl rfl hs32 ?_
    refine ol_r (r_move rfl) rfl ?_
    refine ol_g rfl rfl hs32 ?_
    refine ol_r (r_lss rfl rfl) rfl ?_
    refine ol_r (r_pickF rfl hs32 rfl) rfl ?_
    refine ol_nil (to_k0 (fun _ _ h => h) (hK11 _ _ _ _ _ ?_))
    clear hK11
    refine wp_condD rfl (fun hc35 => ?_) (fun hc35 => ?_)
    ·refine wp_seq' fun K13 hK13 => ?_
     refine wp_reg ?_
     refine ol_r (r_build rfl (fun _ => bd112 _)) rfl ?_
     refine ol_store (id := 6) rfl rfl rfl rfl sz112 rfl rfl (by first | decide | exact Nat.zero_lt_succ _ | simp) ?_
     refine ol_r (r_assign rfl) rfl ?_
     refine ol_nil (to_k0 (fun _ _ h => h) (hK13 _ _ _ _ _ ?_))
     clear hK13
     refine hQ.ret (rvs2 (rv_c (id := 6) (n := 2) rfl rfl ag112 rfl) (rv_t rfl)) (fun _ _ h => h) fun w hb hs hB hkd => ?_
     first
       | (have hc : crB g p q = false := by
            unfold crB gSide
            simp only [Bool.and_eq_false_iff, Bool.not_eq_false', Bool.or_eq_true, Bool.and_eq_true, decide_eq_true_eq]
            omega
          exact ⟨by rw [partOf, hc]; rfl, hb⟩)
    ·refine wp_skip' (to_k0 (fun _ _ h => h) (hK10 _ _ _ _ _ ?_))
     clear hK10
     refine wp_seq' fun K14 hK14 => ?_
     refine wp_regq (by kernel_rfl) (by kernel_rfl) ?_
     refine ql_r (r_lda (id := 8) (n := 2) rfl rfl rfl ag62) rfl ?_
     refine ql_r (r_lda (id := 9) (n := 2) rfl rfl rfl ag62) rfl ?_
     refine ql_r (r_fa (o' := 0) rfl fl75_0 rfl) rfl ?_
     refine ql_r (r_lda (id := 3) (n := 2) rfl rfl rfl ag62) rfl ?_
     refine ql_call rfl rfl cb100 rfl (fun w1 hb1 hs1 hB1 => match_sideOf _ _ _ _ _ _ _ (by assumption) (by assumption) (by assumption) (by assumption) (by assumption) (by assumption)) ?_
     refine ql_r (r_lda (id := 8) (n := 2) rfl rfl rfl ag62) rfl ?_
     refine ql_r (r_lda (id := 9) (n := 2) rfl rfl rfl ag62) rfl ?_
     refine ql_r (r_fa (o' := 2) rfl fl75_1 rfl) rfl ?_
     refine ql_r (r_lda (id := 3) (n := 2) rfl rfl rfl ag62) rfl ?_
     refine ql_call rfl rfl cb100 rfl (fun w1 hb1 hs1 hB1 => match_sideOf _ _ _ _ _ _ _ (by assumption) (by assumption) (by assumption) (by assumption) (by assumption) (by assumption)) ?_
     refine ql_r (r_assign rfl) rfl ?_
     refine ql_r (r_assign rfl) rfl ?_
     refine ql_nil (to_k0 (fun _ _ h => h) (hK14 _ _ _ _ _ ?_))
     clear hK14
     refine wp_seq' fun K15 hK15 => ?_
     refine wp_seq' fun K16 hK16 => ?_
     refine wp_reg ?_
     refine ol_r (r_move rfl) rfl ?_
     refine ol_r (r_gtr rfl rfl) rfl ?_
     refine ol_r (r_move rfl) rfl ?_
     refine ol_split (d := 49) rfl (fun hs49 => ?_) (fun hs49 => ?_)
     ·have phs49 := hs49; try simp only [decide_eq_true_eq, decide_eq_false_iff_not, Bool.not_eq_true', Bool.not_eq_false', Bool.not_true, Bool.not_false] at phs49
      refine ol_g rfl rfl hs49 ?_
      refine ol_r (r_move rfl) rfl ?_
      refine ol_g rfl rfl hs49 ?_
      refine ol_r (r_gtr rfl rfl) rfl ?_
      refine ol_r (r_pickT rfl hs49 rfl) rfl ?_
      refine ol_r (r_move rfl) rfl ?_
      refine ol_split (d := 53) rfl (fun hs53 => ?_) (fun hs53 => ?_)
      ·have phs53 := hs53; try simp only [decide_eq_true_eq, decide_eq_false_iff_not, Bool.not_eq_true', Bool.not_eq_false', Bool.not_true, Bool.not_false] at phs53
       refine ol_s rfl rfl hs53 rfl ?_
       refine ol_s rfl rfl hs53 rfl ?_
       refine ol_s rfl rfl hs53 rfl ?_
       refine ol_u rfl rfl rfl ?_
       refine ol_u rfl rfl rfl ?_
       refine ol_s rfl rfl hs53 rfl ?_
       refine ol_r (r_pickT rfl hs53 rfl) rfl ?_
       refine ol_nil (to_k0 (fun _ _ h => h) (hK16 _ _ _ _ _ ?_))
       clear hK16
       refine wp_condT rfl ?_
       refine wp_seq' fun K17 hK17 => ?_
       refine wp_reg ?_
       refine ol_r (r_build rfl (fun _ => bd112 _)) rfl ?_
       refine ol_store (id := 6) rfl rfl rfl rfl sz112 rfl rfl (by first | decide | exact Nat.zero_lt_succ _ | simp) ?_
       refine ol_r (r_assign rfl) rfl ?_
       refine ol_nil (to_k0 (fun _ _ h => h) (hK17 _ _ _ _ _ ?_))
       clear hK17
       refine hQ.ret (rvs2 (rv_c (id := 6) (n := 2) rfl rfl ag112 rfl) (rv_t rfl)) (fun _ _ h => h) fun w hb hs hB hkd => ?_
       first
         | (have hc : crB g p q = false := by
              unfold crB gSide
              simp only [Bool.and_eq_false_iff, Bool.not_eq_false', Bool.or_eq_true, Bool.and_eq_true, decide_eq_true_eq]
              omega
            exact ⟨by rw [partOf, hc]; rfl, hb⟩)
      ·have phs53 := hs53; try simp only [decide_eq_true_eq, decide_eq_false_iff_not, Bool.not_eq_true', Bool.not_eq_false', Bool.not_true, Bool.not_false] at phs53
       refine ol_g rfl rfl hs53 ?_
       refine ol_r (r_move rfl) rfl ?_
       refine ol_g rfl rfl hs53 ?_
       refine ol_r (r_lss rfl rfl) rfl ?_
       refine ol_g rfl rfl hs53 ?_
       refine ol_r (r_move rfl) rfl ?_
       refine ol_split (d := 56) rfl (fun hs56 => ?_) (fun hs56 => ?_)
       ·have phs56 := hs56; try simp only [decide_eq_true_eq, decide_eq_false_iff_not, Bool.not_eq_true', Bool.not_eq_false', Bool.not_true, Bool.not_false] at phs56
        refine ol_g rfl rfl hs56 ?_
        refine ol_r (r_move rfl) rfl ?_
        refine ol_g rfl rfl hs56 ?_
        refine ol_r (r_lss rfl rfl) rfl ?_
        refine ol_g rfl rfl hs53 ?_
        refine ol_r (r_pickT rfl hs56 rfl) rfl ?_
        refine ol_r (r_pickF rfl hs53 rfl) rfl ?_
        refine ol_nil (to_k0 (fun _ _ h => h) (hK16 _ _ _ _ _ ?_))
        clear hK16
        refine wp_condD rfl (fun hc60 => ?_) (fun hc60 => ?_)
        ·refine wp_seq' fun K18 hK18 => ?_
         refine wp_reg ?_
         refine ol_r (r_build rfl (fun _ => bd112 _)) rfl ?_
         refine ol_store (id := 6) rfl rfl rfl rfl sz112 rfl rfl (by first | decide | exact Nat.zero_lt_succ _ | simp) ?_
         refine ol_r (r_assign rfl) rfl ?_
         refine ol_nil (to_k0 (fun _ _ h => h) (hK18 _ _ _ _ _ ?_))
         clear hK18
         refine hQ.ret (rvs2 (rv_c (id := 6) (n := 2) rfl rfl ag112 rfl) (rv_t rfl)) (fun _ _ h => h) fun w hb hs hB hkd => ?_
         first
           | (have hc : crB g p q = false := by
                unfold crB gSide
                simp only [Bool.and_eq_false_iff, Bool.not_eq_false', Bool.or_eq_true, Bool.and_eq_true, decide_eq_true_eq]
                omega
              exact ⟨by rw [partOf, hc]; rfl, hb⟩)
        ·refine wp_skip' (to_k0 (fun _ _ h => h) (hK15 _ _ _ _ _ ?_))
         clear hK15
         refine wp_seq' fun K19 hK19 => ?_
         refine wp_reg ?_
         refine ol_r (r_move rfl) rfl ?_
         refine ol_r (r_neg rfl (by omega)) rfl ?_
         refine ol_r (r_move rfl) rfl ?_
         refine ol_r (r_move rfl) rfl ?_
         refine ol_r (r_sub rfl rfl (by omega)) rfl ?_
         refine ol_r (r_build rfl (fun _ => bd112_0_1 _ _ _)) rfl ?_
         refine ol_store (id := 6) rfl rfl rfl rfl sz112 rfl rfl (by first | decide | exact Nat.zero_lt_succ _ | simp) ?_
         refine ol_r (r_assign rfl) rfl ?_
         refine ol_nil (to_k0 (fun _ _ h => h) (hK19 _ _ _ _ _ ?_))
         clear hK19
         refine hQ.ret (rvs2 (rv_c (id := 6) (n := 2) rfl rfl ag112 rfl) (rv_t rfl)) (fun _ _ h => h) fun w hb hs hB hkd => ?_
         first
           | (have hc : crB g p q = true := by
                unfold crB gSide
                simp only [Bool.and_eq_true, Bool.not_eq_true', Bool.or_eq_false_iff, Bool.and_eq_false_iff, decide_eq_false_iff_not]
                omega
              exact ⟨by rw [partOf, hc]; rfl, hb⟩)
       ·have phs56 := hs56; try simp only [decide_eq_true_eq, decide_eq_false_iff_not, Bool.not_eq_true', Bool.not_eq_false', Bool.not_true, Bool.not_false] at phs56
        refine ol_s rfl rfl hs56 rfl ?_
        refine ol_s rfl rfl hs56 rfl ?_
        refine ol_g rfl rfl hs53 ?_
        refine ol_r (r_pickF rfl hs56 rfl) rfl ?_
        refine ol_r (r_pickF rfl hs53 rfl) rfl ?_
        refine ol_nil (to_k0 (fun _ _ h => h) (hK16 _ _ _ _ _ ?_))
        clear hK16
        refine wp_condF rfl ?_
        refine wp_skip' (to_k0 (fun _ _ h => h) (hK15 _ _ _ _ _ ?_))
        clear hK15
        refine wp_seq' fun K20 hK20 => ?_
        refine wp_reg ?_
        refine ol_r (r_move rfl) rfl ?_
        refine ol_r (r_neg rfl (by omega)) rfl ?_
        refine ol_r (r_move rfl) rfl ?_
        refine ol_r (r_move rfl) rfl ?_
        refine ol_r (r_sub rfl rfl (by omega)) rfl ?_
        refine ol_r (r_build rfl (fun _ => bd112_0_1 _ _ _)) rfl ?_
        refine ol_store (id := 6) rfl rfl rfl rfl sz112 rfl rfl (by first | decide | exact Nat.zero_lt_succ _ | simp) ?_
        refine ol_r (r_assign rfl) rfl ?_
        refine ol_nil (to_k0 (fun _ _ h => h) (hK20 _ _ _ _ _ ?_))
        clear hK20
        refine hQ.ret (rvs2 (rv_c (id := 6) (n := 2) rfl rfl ag112 rfl) (rv_t rfl)) (fun _ _ h => h) fun w hb hs hB hkd => ?_
        first
          | (have hc : crB g p q = true := by
               unfold crB gSide
               simp only [Bool.and_eq_true, Bool.not_eq_true', Bool.or_eq_false_iff, Bool.and_eq_false_iff, decide_eq_false_iff_not]
               omega
             exact ⟨by rw [partOf, hc]; rfl, hb⟩)
     ·have phs49 := hs49; try simp only [decide_eq_true_eq, decide_eq_false_iff_not, Bool.not_eq_true', Bool.not_eq_false', Bool.not_true, Bool.not_false] at phs49
      refine ol_s rfl rfl hs49 rfl ?_
      refine ol_s rfl rfl hs49 rfl ?_
      refine ol_r (r_pickF rfl hs49 rfl) rfl ?_
      refine ol_r (r_move rfl) rfl ?_
      refine ol_g rfl rfl rfl ?_
      refine ol_r (r_move rfl) rfl ?_
      refine ol_g rfl rfl rfl ?_
      refine ol_r (r_lss rfl rfl) rfl ?_
      refine ol_g rfl rfl rfl ?_
      refine ol_r (r_move rfl) rfl ?_
      refine ol_split (d := 56) rfl (fun hs56 => ?_) (fun hs56 => ?_)
      ·have phs56 := hs56; try simp only [decide_eq_true_eq, decide_eq_false_iff_not, Bool.not_eq_true', Bool.not_eq_false', Bool.not_true, Bool.not_false] at phs56
       refine ol_g rfl rfl hs56 ?_
       refine ol_r (r_move rfl) rfl ?_
       refine ol_g rfl rfl hs56 ?_
       refine ol_r (r_lss rfl rfl) rfl ?_
       refine ol_g rfl rfl rfl ?_
       refine ol_r (r_pickT rfl hs56 rfl) rfl ?_
       refine ol_r (r_pickF rfl rfl rfl) rfl ?_
       refine ol_nil (to_k0 (fun _ _ h => h) (hK16 _ _ _ _ _ ?_))
       clear hK16
       refine wp_condD rfl (fun hc60 => ?_) (fun hc60 => ?_)
       ·refine wp_seq' fun K21 hK21 => ?_
        refine wp_reg ?_
        refine ol_r (r_build rfl (fun _ => bd112 _)) rfl ?_
        refine ol_store (id := 6) rfl rfl rfl rfl sz112 rfl rfl (by first | decide | exact Nat.zero_lt_succ _ | simp) ?_
        refine ol_r (r_assign rfl) rfl ?_
        refine ol_nil (to_k0 (fun _ _ h => h) (hK21 _ _ _ _ _ ?_))
        clear hK21
        refine hQ.ret (rvs2 (rv_c (id := 6) (n := 2) rfl rfl ag112 rfl) (rv_t rfl)) (fun _ _ h => h) fun w hb hs hB hkd => ?_
        first
          | (have hc : crB g p q = false := by
               unfold crB gSide
               simp only [Bool.and_eq_false_iff, Bool.not_eq_false', Bool.or_eq_true, Bool.and_eq_true, decide_eq_true_eq]
               omega
             exact ⟨by rw [partOf, hc]; rfl, hb⟩)
       ·refine wp_skip' (to_k0 (fun _ _ h => h) (hK15 _ _ _ _ _ ?_))
        clear hK15
        refine wp_seq' fun K22 hK22 => ?_
        refine wp_reg ?_
        refine ol_r (r_move rfl) rfl ?_
        refine ol_r (r_neg rfl (by omega)) rfl ?_
        refine ol_r (r_move rfl) rfl ?_
        refine ol_r (r_move rfl) rfl ?_
        refine ol_r (r_sub rfl rfl (by omega)) rfl ?_
        refine ol_r (r_build rfl (fun _ => bd112_0_1 _ _ _)) rfl ?_
        refine ol_store (id := 6) rfl rfl rfl rfl sz112 rfl rfl (by first | decide | exact Nat.zero_lt_succ _ | simp) ?_
        refine ol_r (r_assign rfl) rfl ?_
        refine ol_nil (to_k0 (fun _ _ h => h) (hK22 _ _ _ _ _ ?_))
        clear hK22
        refine hQ.ret (rvs2 (rv_c (id := 6) (n := 2) rfl rfl ag112 rfl) (rv_t rfl)) (fun _ _ h => h) fun w hb hs hB hkd => ?_
        first
          | (have hc : crB g p q = true := by
               unfold crB gSide
               simp only [Bool.and_eq_true, Bool.not_eq_true', Bool.or_eq_false_iff, Bool.and_eq_false_iff, decide_eq_false_iff_not]
               omega
             exact ⟨by rw [partOf, hc]; rfl, hb⟩)
      ·have phs56 := hs56; try simp only [decide_eq_true_eq, decide_eq_false_iff_not, Bool.not_eq_true', Bool.not_eq_false', Bool.not_true, Bool.not_false] at phs56
       refine ol_s rfl rfl hs56 rfl ?_
       refine ol_s rfl rfl hs56 rfl ?_
       refine ol_g rfl rfl rfl ?_
       refine ol_r (r_pickF rfl hs56 rfl) rfl ?_
       refine ol_r (r_pickF rfl rfl rfl) rfl ?_
       refine ol_nil (to_k0 (fun _ _ h => h) (hK16 _ _ _ _ _ ?_))
       clear hK16
       refine wp_condF rfl ?_
       refine wp_skip' (to_k0 (fun _ _ h => h) (hK15 _ _ _ _ _ ?_))
       clear hK15
       refine wp_seq' fun K23 hK23 => ?_
       refine wp_reg ?_
       refine ol_r (r_move rfl) rfl ?_
       refine ol_r (r_neg rfl (by omega)) rfl ?_
       refine ol_r (r_move rfl) rfl ?_
       refine ol_r (r_move rfl) rfl ?_
       refine ol_r (r_sub rfl rfl (by omega)) rfl ?_
       refine ol_r (r_build rfl (fun _ => bd112_0_1 _ _ _)) rfl ?_
       refine ol_store (id := 6) rfl rfl rfl rfl sz112 rfl rfl (by first | decide | exact Nat.zero_lt_succ _ | simp) ?_
       refine ol_r (r_assign rfl) rfl ?_
       refine ol_nil (to_k0 (fun _ _ h => h) (hK23 _ _ _ _ _ ?_))
       clear hK23
       refine hQ.ret (rvs2 (rv_c (id := 6) (n := 2) rfl rfl ag112 rfl) (rv_t rfl)) (fun _ _ h => h) fun w hb hs hB hkd => ?_
       first
         | (have hc : crB g p q = true := by
              unfold crB gSide
              simp only [Bool.and_eq_true, Bool.not_eq_true', Bool.or_eq_false_iff, Bool.and_eq_false_iff, decide_eq_false_iff_not]
              omega
            exact ⟨by rw [partOf, hc]; rfl, hb⟩)
theorem crossOf_eq {gs : List GateR} {p q : SmpR} {st i : Nat} {g : GateR} (h : gs[i]? = some g) : crossOf gs p q st (i : Int) = ⟨i, st, 1000 * p.at_ + (partOf g p q).num * (1000 * (q.at_ - p.at_)) / (partOf g p q).den⟩ := by unfold crossOf; rw [Int.toNat_natCast, h]
theorem ins_tiny (a : Option Addr) (n c : Nat) (fv : Value) (w : World) (hn : n ≤ 1) :
    Calls Try.prog 116 #[.slice a n c, .int .i64 0, .int .i64 n, fv] w fun e w' => e = .returned (.tuple #[]) ∧ Below w.heap.size w w' := by
  refine enterQ (N := 53) (C := fun _ => True) (H := []) (B := w.heap.size) (args := [_, _, _, _]) Try.func116 rfl rfl rfl (Nat.le_refl _) (Sat.nil _ _) fun Q hQ => ?_
  refine wp_seq' fun K1 hK1 => ?_
  refine wp_reg ?_
  refine ol_r (r_move rfl) rfl ?_
  refine ol_r (r_add rfl rfl (by omega)) rfl ?_
  refine ol_r (r_assign rfl) rfl ?_
  refine ol_nil (to_k0 (fun _ _ h => h) (hK1 _ _ _ _ _ ?_))
  clear hK1
  refine wp_block' ?_
  apply wp_loopM (σ := Unit) (fun s => True) (fun s => [(8, .int .i64 (0 + 1))]) [(0, _), (1, _), (2, _), (3, _)] (fun s => []) [] (fun s => 0) (())
  ·try dsimp only
   all_goals trivial
  ·exact (sub_cons rfl sub_nil)
  ·exact (sub_cons rfl (sub_cons rfl (sub_cons rfl (sub_cons rfl sub_nil))))
  ·exact subH_nil
  ·exact subH_nil
  ·rintro u _
   intro K2 hK2
   refine wp_seq' fun K3 hK3 => ?_
   refine wp_seq' fun K4 hK4 => ?_
   refine wp_reg ?_
   refine ol_r (r_move rfl) rfl ?_
   refine ol_r (r_move rfl) rfl ?_
   refine ol_r (r_lss rfl rfl) rfl ?_
   refine ol_nil (to_k0 (fun _ _ h => h) (hK4 _ _ _ _ _ ?_))
   clear hK4
   refine wp_condD rfl (fun hc14 => ?_) (fun hc14 => ?_)
   ·exfalso
    omega
   ·refine wp_exit' (hQ.fall rvs0 (fun _ _ h => h) fun w hb hs hB hkd => ?_)
    exact ⟨rfl, hb⟩
theorem stable_tiny (a : Option Addr) (n c : Nat) (fv : Value) (w : World) (hn : n ≤ 1) :
    Calls Try.prog 101 #[.slice a n c, .int .i64 n, fv] w fun e w' => e = .returned (.tuple #[]) ∧ Below w.heap.size w w' := by
  refine enterQ (N := 63) (C := fun _ => True) (H := []) (B := w.heap.size) (args := [_, _, _]) Try.func101 rfl rfl rfl (Nat.le_refl _) (Sat.nil _ _) fun Q hQ => ?_
  refine wp_seq' fun K1 hK1 => ?_
  refine wp_reg ?_
  refine ol_r (r_assign rfl) rfl ?_
  refine ol_nil (to_k0 (fun _ _ h => h) (hK1 _ _ _ _ _ ?_))
  clear hK1
  refine wp_seq' fun K2 hK2 => ?_
  refine wp_reg ?_
  refine ol_r (r_move rfl) rfl ?_
  refine ol_r (r_assign rfl) rfl ?_
  refine ol_r (r_assign rfl) rfl ?_
  refine ol_nil (to_k0 (fun _ _ h => h) (hK2 _ _ _ _ _ ?_))
  clear hK2
  refine wp_seq' fun K3 hK3 => ?_
  refine wp_block' ?_
  apply wp_loopM (σ := Unit) (fun s => True) (fun s => [(7, .int .i64 0), (8, .int .i64 20)]) [(0, _), (1, _), (2, _), (6, _)] (fun s => []) [] (fun s => 0) (())
  ·try dsimp only
   all_goals trivial
  ·exact (sub_cons rfl (sub_cons rfl sub_nil))
  ·exact (sub_cons rfl (sub_cons rfl (sub_cons rfl (sub_cons rfl sub_nil))))
  ·exact subH_nil
  ·exact subH_nil
  ·rintro u _
   intro K4 hK4
   refine wp_seq' fun K5 hK5 => ?_
   refine wp_seq' fun K6 hK6 => ?_
   refine wp_reg ?_
   refine ol_r (r_move rfl) rfl ?_
   refine ol_r (r_move rfl) rfl ?_
   refine ol_r (r_leq rfl rfl) rfl ?_
   refine ol_nil (to_k0 (fun _ _ h => h) (hK6 _ _ _ _ _ ?_))
   clear hK6
   refine wp_condD rfl (fun hc13 => ?_) (fun hc13 => ?_)
   ·exfalso
    omega
   ·refine wp_exit' (to_k0 (fun _ _ h => h) (hK3 _ _ _ _ _ ?_))
    clear hK3
    refine wp_seq' fun K7 hK7 => ?_
    refine wp_reg ?_
    refine ol_r (r_move rfl) rfl ?_
    refine ol_r (r_move rfl) rfl ?_
    refine ol_r (r_move rfl) rfl ?_
    refine ol_r (r_move rfl) rfl ?_
    refine ol_call rfl rfl cb116 rfl (fun w1 hb1 hs1 hB1 => Calls.mono (ins_tiny _ _ _ _ _ hn) ?_)
    rintro e w2 ⟨rfl, hb2⟩
    refine After.below rfl hb1 hs1 hB1 hb2 ?_
    clear hb2 hB1 hs1 hb1 w2 w1
    refine ol_nil (to_k0 (fun _ _ h => h) (hK7 _ _ _ _ _ ?_))
    clear hK7
    refine wp_block' ?_
    apply wp_loopM (σ := Unit) (fun s => True) (fun s => [(6, .int .i64 20), (7, .int .i64 0), (8, .int .i64 20)]) [(0, _), (1, _), (2, _)] (fun s => []) [] (fun s => 0) (())
    ·try dsimp only
     all_goals trivial
    ·exact (sub_cons rfl (sub_cons rfl (sub_cons rfl sub_nil)))
    ·exact (sub_cons rfl (sub_cons rfl (sub_cons rfl sub_nil)))
    ·exact subH_nil
    ·exact subH_nil
    ·rintro u _
     intro K8 hK8
     refine wp_seq' fun K9 hK9 => ?_
     refine wp_seq' fun K10 hK10 => ?_
     refine wp_reg ?_
     refine ol_r (r_move rfl) rfl ?_
     refine ol_r (r_move rfl) rfl ?_
     refine ol_r (r_lss rfl rfl) rfl ?_
     refine ol_nil (to_k0 (fun _ _ h => h) (hK10 _ _ _ _ _ ?_))
     clear hK10
     refine wp_condD rfl (fun hc30 => ?_) (fun hc30 => ?_)
     ·exfalso
      omega
     ·refine wp_exit' (hQ.fall rvs0 (fun _ _ h => h) fun w hb hs hB hkd => ?_)
      exact ⟨rfl, hb⟩
theorem sort_tiny (a : Option Addr) (n c : Nat) (fv : Value) (w : World) (hn : n ≤ 1) :
    Calls Try.prog 73 #[.slice a n c, fv] w fun e w' => e = .returned (.tuple #[]) ∧ Below w.heap.size w w' := by
  refine enterQ (N := 9) (C := fun _ => True) (H := []) (B := w.heap.size) (args := [_, _]) Try.func73 rfl rfl rfl (Nat.le_refl _) (Sat.nil _ _) fun Q hQ => ?_
  refine wp_reg ?_
  refine ol_r (r_move rfl) rfl ?_
  refine ol_r (r_move rfl) rfl ?_
  refine ol_r (r_len rfl sl47) rfl ?_
  refine ol_r (r_move rfl) rfl ?_
  refine ol_call rfl rfl cb101 rfl (fun w1 hb1 hs1 hB1 => Calls.mono (stable_tiny _ _ _ _ _ hn) ?_)
  rintro e w2 ⟨rfl, hb2⟩
  refine After.below rfl hb1 hs1 hB1 hb2 ?_
  clear hb2 hB1 hs1 hb1 w2 w1
  refine ol_nil (hQ.fall rvs0 (fun _ _ h => h) fun w hb hs hB hkd => ?_)
  exact ⟨rfl, hb⟩
theorem cross_easy (nm : ByteArray) (ga : Option Addr) (gn gc : Nat) (gs : List GateR) (A : ActV) (w : World) (hS : Rd encGate w.heap.size w ga gn gc gs) (hA : A.Ok w.heap.size w) (hseg : SegOk nm gs) (hok : SmpOk A.start A.ss) (he : Easy gs A.ss) :
    Calls Try.prog 36 #[.agg #[.string nm, .slice ga gn gc], .agg #[.string A.name, .int .i64 A.sport, .int .i64 A.start, .slice A.sa A.sn A.sc, .slice A.la A.ln A.lc, .slice A.ta A.tn A.tc]] w fun e w' => ∃ b m k, e = .returned (.slice b m k) ∧ Fresh encCr 36 w w' b m k (crossN gs (stepsL A.ss) (stepsL A.ss).length) := by
  have hgn := hS.len
  have hgl := hseg.len
  have hsn := hA.s.len
  have hsf := hA.s.fit
  have hlen := stepsL_len A.ss
  have hl20 := hok.len
  refine enterQ (N := 92) (C := fun _ => True) (H := []) (B := w.heap.size) (args := [_, _]) Try.func36 rfl rfl rfl (Nat.le_refl _) (Sat.nil _ _) fun Q hQ => ?_
  refine wp_seq' fun K1 hK1 => ?_
  refine wp_reg ?_
  refine ol_box 2 rfl rfl rfl fun b2 => ?_
  refine ol_box 3 rfl rfl rfl fun b3 => ?_
  refine ol_r (r_assign rfl) rfl ?_
  refine ol_nil (to_k0 (fun _ _ h => h) (hK1 _ _ _ _ _ ?_))
  clear hK1
  refine wp_seq' fun K2 hK2 => ?_
  refine wp_reg ?_
  refine ol_alloc 5 z30 rfl fun b5 => ?_
  refine ol_nilrow 3005 36 3 ?_
  refine ol_nil (to_k0 (fun _ _ h => h) (hK2 _ _ _ _ _ ?_))
  clear hK2
  refine wp_seq' fun K3 hK3 => ?_
  refine wp_reg ?_
  refine ol_alloc 6 z3 rfl fun b6 => ?_
  refine ol_store (id := 6) rfl rfl rfl rfl sz3 rfl rfl (by first | decide | exact Nat.zero_lt_succ _ | simp) ?_
  refine ol_nil (to_k0 (fun _ _ h => h) (hK3 _ _ _ _ _ ?_))
  clear hK3
  refine wp_seq' fun K4 hK4 => ?_
  refine wp_seq' fun K5 hK5 => ?_
  refine wp_reg ?_
  refine ol_r (r_lda (id := 3) (n := 6) rfl rfl rfl ag29) rfl ?_
  refine ol_call rfl rfl cb71 rfl (fun w1 hb1 hs1 hB1 => ?_)
  refine Calls.mono (track_Steps A _ (hA.at hb1 hB1)) ?_
  rintro e w2 ⟨b0, T0, rfl, hb2, hs2⟩
  refine After.more rfl hb1 hs1 hB1 hb2 hs2 ?_
  clear hs2 hb2 hB1 hs1 hb1 w2 w1
  refine ol_nil (to_k0 (fun _ _ h => h) (hK5 _ _ _ _ _ ?_))
  clear hK5
  refine wp_block' ?_
  refine wp_rf (σ := Option Addr × Nat × Nat) (τ := Unit) (encs := fun x : SmpR × SmpR => [.agg #[.int .i64 x.1.at_, .int .i64 x.1.x, .int .i64 x.1.y, .int .i64 x.1.z, .int .i64 x.1.pulse, .int .i64 x.1.power, .int .i64 x.1.steps], .agg #[.int .i64 x.2.at_, .int .i64 x.2.x, .int .i64 x.2.y, .int .i64 x.2.z, .int .i64 x.2.pulse, .int .i64 x.2.power, .int .i64 x.2.steps]]) (zs := stepsL A.ss) rfl cb99 (steps_iter A _ b0 _ hA.s) (by rfl) (by rfl) (by rfl) (fun _ => rfl) (fun k s => k ≤ (stepsL A.ss).length ∧ s.2.1 ≤ k) (fun k s => [(5, .blk b5 [(0, .slice s.1 s.2.1 s.2.2)] 30), (6, .blk b6 [(0, .int .i64 k)] 3), (3005, .row s.1 s.2.1 s.2.2 (encCr.enc (crossN gs (stepsL A.ss) k)) 36 3)]) [(2, _), (3, _), (1001, _)] (fun t => False) (fun t => []) ((none, 0, 0)) ?_ (by exact (subH_blk rfl (sub_cons rfl sub_nil) (subH_blk rfl (sub_cons rfl sub_nil) (subH_row rfl (by rfl) subH_nil)))) (subH_same rfl (subH_same rfl (subH_same rfl subH_nil))) ?_ ?_ ?_ ?_
  ·try dsimp only
   omega
  ·intro k s W hI hbW hsW hBW
   exact ⟨hbW, ⟨_, hsW.one 1001 100 rfl (Ent.le_refl _)⟩, hBW⟩
  ·rintro k x ⟨oa, on, oc⟩ B0 W hx hI hbW hBW hB0
   have hxx := stepsL_inv hx
   have hp := hok.place (List.mem_of_getElem? hxx.1)
   have hq := hok.place (List.mem_of_getElem? hxx.2)
   have hone := he.one k x hx
   have hkl := (List.getElem?_eq_some_iff.1 hx).1
   dsimp only at hI ⊢
   intro Ka6 hKa6
   simp only [alp]
   refine wp_seq' fun K7 hK7 => ?_
   refine wp_reg ?_
   refine ol_alloc 7 z73 rfl fun b7 => ?_
   refine ol_store (id := 7) rfl rfl rfl rfl sz73 rfl rfl (by first | decide | exact Nat.zero_lt_succ _ | simp) ?_
   refine ol_nil (to_k0 (fun _ _ h => h) (hK7 _ _ _ _ _ ?_))
   clear hK7
   refine wp_reg ?_
   refine ol_alloc 8 z73 rfl fun b8 => ?_
   refine ol_store (id := 8) rfl rfl rfl rfl sz73 rfl rfl (by first | decide | exact Nat.zero_lt_succ _ | simp) ?_
   refine ol_nil (to_k0 (fun _ _ h => h) (hKa6 _ _ fun Wb R hbw hBw hn hr => ?_))
   have hS := hS.below hbw
   refine wp_block' ?_
   refine wp_seq' fun K8 hK8 => ?_
   refine wp_reg ?_
   refine ol_alloc 9 z110 rfl fun b9 => ?_
   refine ol_nilrow 3009 112 2 ?_
   refine ol_nil (to_k0 (fun _ _ h => h) (hK8 _ _ _ _ _ ?_))
   clear hK8
   refine wp_seq' fun K9 hK9 => ?_
   refine wp_reg ?_
   refine ol_nilrow 10 3 1 ?_
   refine ol_r (r_assign rfl) rfl ?_
   refine ol_nil (to_k0 (fun _ _ h => h) (hK9 _ _ _ _ _ ?_))
   clear hK9
   refine wp_seq' fun K10 hK10 => ?_
   refine wp_seq' fun K11 hK11 => ?_
   refine wp_reg ?_
   refine ol_r (r_fa (o' := 1) rfl fl24_1 rfl) rfl ?_
   refine ol_r (r_ld (id := 2) rfl rfl rfl sc22) rfl ?_
   refine ol_r (r_len rfl sl22) rfl ?_
   refine ol_r (r_move rfl) rfl ?_
   refine ol_nil (to_k0 (fun _ _ h => h) (hK11 _ _ _ _ _ ?_))
   clear hK11
   refine wp_block' ?_
   apply wp_loopM (σ := Nat × Option Addr × Nat × Nat × Option Addr × Nat) (fun s => s.1 ≤ gn ∧ (gIdx gs x.1 x.2 s.1).length = s.2.2.1) (fun s => [(26, .int .i64 s.1), (10, .slice s.2.1 s.2.2.1 s.2.2.2.1)]) [(4, _), (5, _), (6, _), (7, _), (8, _), (9, _), (24, _), (25, _)] (fun s => [(10, .row s.2.1 s.2.2.1 s.2.2.2.1 (encI.enc (gIdx gs x.1 x.2 s.1)) 3 1), (9, .blk b9 [(0, .slice s.2.2.2.2.1 s.1 s.2.2.2.2.2)] 110), (3009, .row s.2.2.2.2.1 s.1 s.2.2.2.2.2 (encPart.enc ((gs.take s.1).map fun g => partOf g x.1 x.2)) 112 2)]) [(2, _), (3, _), (5, _), (6, _), (7, _), (8, _), (1001, _), (3005, _)] (fun s => gn - s.1) ((0, none, 0, 0, none, 0))
   ·try dsimp only
    exact ⟨Nat.zero_le _, rfl⟩
   ·exact (sub_cons rfl (sub_cons rfl sub_nil))
   ·exact (sub_cons rfl (sub_cons rfl (sub_cons rfl (sub_cons rfl (sub_cons rfl (sub_cons rfl (sub_cons rfl (sub_cons rfl sub_nil))))))))
   ·exact (subH_row rfl (by dsimp only; rfl) (subH_blk rfl (sub_cons rfl sub_nil) (subH_row rfl (by dsimp only; rfl) subH_nil)))
   ·exact (subH_same rfl (subH_same rfl (subH_same rfl (subH_same rfl (subH_same rfl (subH_same rfl (subH_same rfl (subH_same rfl subH_nil))))))))
   ·rintro ⟨j, qa, qn, qc, pa, pc⟩ ⟨hj, hqn⟩
    dsimp only at hj hqn ⊢
    have hql := gIdx_len gs x.1 x.2 j
    intro K12 hK12
    refine wp_seq' fun K13 hK13 => ?_
    refine wp_reg ?_
    refine ol_r (r_lss rfl rfl) rfl ?_
    refine ol_nil (to_k0 (fun _ _ h => h) (hK13 _ _ _ _ _ ?_))
    clear hK13
    refine wp_seq' fun K14 hK14 => ?_
    refine wp_condD rfl (fun hc27 => ?_) (fun hc27 => ?_)
    ·refine wp_skip' (to_k0 (fun _ _ h => h) (hK14 _ _ _ _ _ ?_))
     clear hK14
     refine wp_seq' fun K15 hK15 => ?_
     refine wp_block' ?_
     refine wp_seq' fun K16 hK16 => ?_
     refine wp_reg ?_
     refine ol_r (r_move rfl) rfl ?_
     refine ol_ixr hS rfl rfl sl22 (by omega) rfl fun x29 hx29 => ?_
     try simp only [Int.toNat_natCast] at hx29
     refine ol_r (r_ldw rfl (fun w1 hb1 hs1 hB1 => Rd.loads hS ty75 hx29 hb1)) rfl ?_
     refine ol_alloc 12 z75 rfl fun b12 => ?_
     refine ol_r (r_assign rfl) rfl ?_
     refine ol_store (id := 12) rfl rfl rfl rfl sz75 rfl rfl (by first | decide | exact Nat.zero_lt_succ _ | simp) ?_
     refine ol_nil (to_k0 (fun _ _ h => h) (hK16 _ _ _ _ _ ?_))
     clear hK16
     refine wp_seq' fun K17 hK17 => ?_
     refine wp_reg ?_
     refine ol_r (r_lda (id := 12) (n := 4) rfl rfl rfl ag75) rfl ?_
     refine ol_r (r_lda (id := 7) (n := 7) rfl rfl rfl ag73) rfl ?_
     refine ol_r (r_lda (id := 8) (n := 7) rfl rfl rfl ag73) rfl ?_
     refine ol_call rfl rfl cb72 rfl (fun w1 hb1 hs1 hB1 => Calls.mono (match_crosses x29 x.1 x.2 _ (hseg.g x29 (List.mem_of_getElem? hx29)) hp hq) ?_)
     rintro e w2 ⟨rfl, hb2⟩
     refine After.below rfl hb1 hs1 hB1 hb2 ?_
     clear hb2 hB1 hs1 hb1 w2 w1
     refine ol_r (r_move rfl) rfl ?_
     refine ol_r (r_extract rfl rfl) rfl ?_
     refine ol_r (r_extract rfl rfl) rfl ?_
     refine ol_alloc 13 z112 rfl fun b13 => ?_
     refine ol_store (id := 13) rfl rfl rfl rfl sz112 rfl rfl (by first | decide | exact Nat.zero_lt_succ _ | simp) ?_
     refine ol_r (r_assign rfl) rfl ?_
     refine ol_nil (to_k0 (fun _ _ h => h) (hK17 _ _ _ _ _ ?_))
     clear hK17
     refine wp_seq' fun K18 hK18 => ?_
     refine wp_seq' fun K19 hK19 => ?_
     refine wp_reg ?_
     refine ol_r (r_move rfl) rfl ?_
     refine ol_nil (to_k0 (fun _ _ h => h) (hK19 _ _ _ _ _ ?_))
     clear hK19
     refine wp_cond' rfl (fun hc38 => ?_) (fun hc38 => ?_)
     ·refine wp_reg ?_
      refine ol_r (r_move rfl) rfl ?_
      refine ol_r (r_move rfl) rfl ?_
      refine ol_bs1 41 rfl rfl rw47 rfl rfl rfl fun a41 => ?_
      refine ol_append1 (id := 10) (id2 := 41) rfl rfl rfl rfl rfl rw47 (by omega) rfl fun a42 c42 => ?_
      refine ol_r (r_assign rfl) rfl ?_
      refine ol_nil (to_k0 (fun _ _ h => h) (hK18 _ _ _ _ _ ?_))
      clear hK18
      refine wp_reg ?_
      refine ol_r (r_ld (id := 9) rfl rfl rfl sc110) rfl ?_
      refine ol_r (r_lda (id := 13) (n := 2) rfl rfl rfl ag112) rfl ?_
      refine ol_bs1 45 rfl rfl rw110 rfl rfl rfl fun a45 => ?_
      refine ol_append1 (id := 3009) (id2 := 45) rfl rfl rfl rfl rfl rw110 (by omega) rfl fun a46 c46 => ?_
      refine ol_store (id := 9) rfl rfl rfl rfl sz110 rfl rfl (by first | decide | exact Nat.zero_lt_succ _ | simp) ?_
      refine ol_nil (to_k0 (fun _ _ h => h) (hK15 _ _ _ _ _ ?_))
      clear hK15
      refine wp_reg ?_
      refine ol_r (r_add rfl rfl (by omega)) rfl ?_
      refine ol_r (r_move rfl) rfl ?_
      refine ol_nil (to_k0 (fun _ _ h => h) (hK12 ((j + 1, _, _, _, _, _)) _ _ ?_ ?_ (sub_cons rfl (sub_cons rfl sub_nil)) (sub_cons rfl (sub_cons rfl (sub_cons rfl (sub_cons rfl (sub_cons rfl (sub_cons rfl (sub_cons rfl (sub_cons rfl sub_nil)))))))) (by exact (subH_row rfl (by first | (dsimp only; first | (rw [gIdx_yes hx29 hc38, encI_snoc]) | (rw [gIdx_no hx29 hc38]) | (rw [take_succ_get hx29, List.map_append, Enc.enc_append]; rfl); done) | (first | (rw [gIdx_yes hx29 hc38, encI_snoc]) | (rw [gIdx_no hx29 hc38]) | (rw [take_succ_get hx29, List.map_append, Enc.enc_append]; rfl); done) | (dsimp only; done)) (subH_blk rfl (sub_cons rfl sub_nil) (subH_row rfl (by dsimp only; first | (rw [gIdx_yes hx29 hc38, encI_snoc]) | (rw [gIdx_no hx29 hc38]) | (rw [take_succ_get hx29, List.map_append, Enc.enc_append]; rfl)) subH_nil)))) (subH_same rfl (subH_same rfl (subH_same rfl (subH_same rfl (subH_same rfl (subH_same rfl (subH_same rfl (subH_same rfl subH_nil))))))))))
      ·try dsimp only
       first
         | exact ⟨by omega, by rw [gIdx_yes hx29 hc38, List.length_append, hqn]; rfl⟩
      ·try dsimp only
       omega
     ·refine wp_skip' (to_k0 (fun _ _ h => h) (hK18 _ _ _ _ _ ?_))
      clear hK18
      refine wp_reg ?_
      refine ol_r (r_ld (id := 9) rfl rfl rfl sc110) rfl ?_
      refine ol_r (r_lda (id := 13) (n := 2) rfl rfl rfl ag112) rfl ?_
      refine ol_bs1 45 rfl rfl rw110 rfl rfl rfl fun a45 => ?_
      refine ol_append1 (id := 3009) (id2 := 45) rfl rfl rfl rfl rfl rw110 (by omega) rfl fun a46 c46 => ?_
      refine ol_store (id := 9) rfl rfl rfl rfl sz110 rfl rfl (by first | decide | exact Nat.zero_lt_succ _ | simp) ?_
      refine ol_nil (to_k0 (fun _ _ h => h) (hK15 _ _ _ _ _ ?_))
      clear hK15
      refine wp_reg ?_
      refine ol_r (r_add rfl rfl (by omega)) rfl ?_
      refine ol_r (r_move rfl) rfl ?_
      refine ol_nil (to_k0 (fun _ _ h => h) (hK12 ((j + 1, _, _, _, _, _)) _ _ ?_ ?_ (sub_cons rfl (sub_cons rfl sub_nil)) (sub_cons rfl (sub_cons rfl (sub_cons rfl (sub_cons rfl (sub_cons rfl (sub_cons rfl (sub_cons rfl (sub_cons rfl sub_nil)))))))) (by exact (subH_row rfl (by first | (dsimp only; first | (rw [gIdx_yes hx29 hc38, encI_snoc]) | (rw [gIdx_no hx29 hc38]) | (rw [take_succ_get hx29, List.map_append, Enc.enc_append]; rfl); done) | (first | (rw [gIdx_yes hx29 hc38, encI_snoc]) | (rw [gIdx_no hx29 hc38]) | (rw [take_succ_get hx29, List.map_append, Enc.enc_append]; rfl); done) | (dsimp only; done)) (subH_blk rfl (sub_cons rfl sub_nil) (subH_row rfl (by dsimp only; first | (rw [gIdx_yes hx29 hc38, encI_snoc]) | (rw [gIdx_no hx29 hc38]) | (rw [take_succ_get hx29, List.map_append, Enc.enc_append]; rfl)) subH_nil)))) (subH_same rfl (subH_same rfl (subH_same rfl (subH_same rfl (subH_same rfl (subH_same rfl (subH_same rfl (subH_same rfl subH_nil))))))))))
      ·try dsimp only
       first
         | exact ⟨by omega, by rw [gIdx_no hx29 hc38]; exact hqn⟩
      ·try dsimp only
       omega
    ·refine wp_exit' (to_k0 (fun _ _ h => h) (hK10 _ _ _ _ _ ?_))
     clear hK10
     refine wp_seq' fun K20 hK20 => ?_
     refine wp_reg ?_
     obtain rfl : j = gs.length := by omega
     rw [List.take_of_length_le (Nat.le_refl _)]
     refine ol_r (r_move rfl) rfl ?_
     refine ol_r (r_func rfl) rfl ?_
     refine ol_call rfl rfl cb73 rfl (fun w1 hb1 hs1 hB1 => Calls.mono (sort_tiny _ _ _ _ _ (by omega)) ?_)
     rintro e w2 ⟨rfl, hb2⟩
     refine After.below rfl hb1 hs1 hB1 hb2 ?_
     clear hb2 hB1 hs1 hb1 w2 w1
     refine ol_nil (to_k0 (fun _ _ h => h) (hK20 _ _ _ _ _ ?_))
     clear hK20
     refine wp_seq' fun K21 hK21 => ?_
     refine wp_seq' fun K22 hK22 => ?_
     refine wp_reg ?_
     refine ol_r (r_move rfl) rfl ?_
     refine ol_r (r_len rfl sl47) rfl ?_
     refine ol_r (r_move rfl) rfl ?_
     refine ol_nil (to_k0 (fun _ _ h => h) (hK22 _ _ _ _ _ ?_))
     clear hK22
     refine wp_block' ?_
     apply wp_loopM (σ := Nat × Option Addr × Nat × Nat) (fun s => s.1 ≤ qn ∧ s.2.2.1 = on + s.1) (fun s => [(53, .int .i64 s.1)]) [(4, _), (5, _), (6, _), (7, _), (8, _), (9, _), (51, _), (52, _)] (fun s => [(5, .blk b5 [(0, .slice s.2.1 s.2.2.1 s.2.2.2)] 30), (3005, .row s.2.1 s.2.2.1 s.2.2.2 (encCr.enc (crossN gs (stepsL A.ss) k ++ ((gIdx gs x.1 x.2 gs.length).take s.1).map (crossOf gs x.1 x.2 k))) 36 3)]) [(2, _), (3, _), (6, _), (7, _), (8, _), (9, _), (10, _), (1001, _), (3009, _)] (fun s => qn - s.1) ((0, _, _, _))
     ·try dsimp only
      exact ⟨Nat.zero_le _, rfl⟩
     ·exact (sub_cons rfl sub_nil)
     ·exact (sub_cons rfl (sub_cons rfl (sub_cons rfl (sub_cons rfl (sub_cons rfl (sub_cons rfl (sub_cons rfl (sub_cons rfl sub_nil))))))))
     ·exact (subH_blk rfl (sub_cons rfl sub_nil) (subH_row rfl (by dsimp only; (rw [List.take_zero]; simp)) subH_nil))
     ·exact (subH_same rfl (subH_same rfl (subH_same rfl (subH_same rfl (subH_same rfl (subH_same rfl (subH_same rfl (subH_same rfl (subH_same rfl subH_nil)))))))))
     ·rintro ⟨t, oa2, on2, oc2⟩ ⟨ht, hon⟩
      dsimp only at ht hon ⊢
      intro K23 hK23
      refine wp_seq' fun K24 hK24 => ?_
      refine wp_reg ?_
      refine ol_r (r_lss rfl rfl) rfl ?_
      refine ol_nil (to_k0 (fun _ _ h => h) (hK24 _ _ _ _ _ ?_))
      clear hK24
      refine wp_seq' fun K25 hK25 => ?_
      refine wp_condD rfl (fun hc54 => ?_) (fun hc54 => ?_)
      ·refine wp_skip' (to_k0 (fun _ _ h => h) (hK25 _ _ _ _ _ ?_))
       clear hK25
       refine wp_seq' fun K26 hK26 => ?_
       refine wp_block' ?_
       refine wp_seq' fun K27 hK27 => ?_
       refine wp_reg ?_
       refine ol_ixo (id := 10) encI _ rfl rfl rfl rfl sl47 (by omega) rfl fun x55 hx55 => ?_
       try simp only [Int.toNat_natCast] at hx55
       try simp only [Int.toNat_natCast] at hx55
       refine ol_r (r_ldw rfl (fun w1 hb1 hs1 hB1 => show Loads _ _ _ _ (.int .i64 x55) from ld_own (id := 10) hs1 rfl rfl ty3 hx55)) rfl ?_
       refine ol_r (r_assign rfl) rfl ?_
       refine ol_nil (to_k0 (fun _ _ h => h) (hK27 _ _ _ _ _ ?_))
       clear hK27
       refine wp_seq' fun K28 hK28 => ?_
       refine wp_regq (by kernel_rfl) (by kernel_rfl) ?_
       obtain ⟨i, g, rfl, hi, hgi, hcr⟩ := gIdx_mem (List.mem_of_getElem? hx55)
       have hez := he.num k x g hx (List.mem_of_getElem? hgi) hcr
       have hpo := crB_pos hcr
       have hpe : partOf g x.1 x.2 = ⟨-gSide g x.1, gSide g x.2 - gSide g x.1⟩ := by rw [partOf, if_pos hcr]
       have hml : (gs.map fun g => partOf g x.1 x.2).length = gs.length := List.length_map _
       refine ql_r (r_ld (id := 9) rfl rfl rfl sc110) rfl ?_
       refine ql_r (r_move rfl) rfl ?_
       refine ql_ixo (id := 3009) encPart _ rfl rfl rfl rfl sl110 (by omega) (by omega) rfl fun x60 hx60 => ?_
       try simp only [Int.toNat_natCast] at hx60
       try simp only [Int.toNat_natCast] at hx60
       have h60 : x60 = ⟨-gSide g x.1, gSide g x.2 - gSide g x.1⟩ := by
         rw [List.getElem?_map, hgi] at hx60
         rw [← hpe]; exact (Option.some.inj hx60).symm
       have h60n : x60.num = -gSide g x.1 := by rw [h60]
       refine ql_r (r_faO (id := 3009) rfl rfl rfl hx60 fl112_0) rfl ?_
       refine ql_r (r_ldw rfl (fun w1 hb1 hs1 hB1 => ld_ownF (id := 3009) (o := 0) hs1 rfl rfl sc3 hx60 rfl)) rfl ?_
       refine ql_r (r_fa (o' := 0) rfl fl73_0 rfl) rfl ?_
       refine ql_r (r_ld (id := 8) rfl rfl rfl sc3) rfl ?_
       refine ql_r (r_fa (o' := 0) rfl fl73_0 rfl) rfl ?_
       refine ql_r (r_ld (id := 7) rfl rfl rfl sc3) rfl ?_
       refine ql_r (r_sub rfl rfl (by omega)) rfl ?_
       refine ql_r (r_mul rfl rfl (by omega)) rfl ?_
       refine ql_r (r_ld (id := 9) rfl rfl rfl sc110) rfl ?_
       refine ql_r (r_move rfl) rfl ?_
       refine ql_ixo (id := 3009) encPart _ rfl rfl rfl rfl sl110 (by omega) (by omega) rfl fun x71 hx71 => ?_
       try simp only [Int.toNat_natCast] at hx71
       try simp only [Int.toNat_natCast] at hx71
       refine ql_r (r_faO (id := 3009) rfl rfl rfl hx71 fl112_1) rfl ?_
       refine ql_r (r_ldw rfl (fun w1 hb1 hs1 hB1 => ld_ownF (id := 3009) (o := 1) hs1 rfl rfl sc3 hx71 rfl)) rfl ?_
       have h71 : x71 = ⟨-gSide g x.1, gSide g x.2 - gSide g x.1⟩ := by
         rw [List.getElem?_map, hgi] at hx71
         rw [← hpe]; exact (Option.some.inj hx71).symm
       have h71d : x71.den = gSide g x.2 - gSide g x.1 := by rw [h71]
       have hmb := mul_bd (a := x60.num) (b := 1000 * (x.2.at_ - x.1.at_)) (A := 10000) (B := 10000000) (by omega) (by omega) (by omega) (by omega)
       have hq0 : 0 ≤ x60.num * (1000 * (x.2.at_ - x.1.at_)) / x71.den := Int.ediv_nonneg hmb.1 (by omega)
       have hq1 : x60.num * (1000 * (x.2.at_ - x.1.at_)) / x71.den ≤ x60.num * (1000 * (x.2.at_ - x.1.at_)) := Int.ediv_le_self _ hmb.1
       refine ql_call rfl rfl cb66 rfl (fun w1 hb1 hs1 hB1 => quant_ScaleDown _ _ _ _ (by omega) (by omega) (by omega) (by omega)) ?_
       refine ql_r (r_move rfl) rfl ?_
       refine ql_r (r_extract rfl rfl) rfl ?_
       refine ql_r (r_extract rfl rfl) rfl ?_
       refine ql_r (r_assign rfl) rfl ?_
       refine ql_r (r_assign rfl) rfl ?_
       refine ql_nil (to_k0 (fun _ _ h => h) (hK28 _ _ _ _ _ ?_))
       clear hK28
       refine wp_reg ?_
       refine ol_r (r_ld (id := 5) rfl rfl rfl sc30) rfl ?_
       refine ol_r (r_move rfl) rfl ?_
       refine ol_r (r_ld (id := 6) rfl rfl rfl sc3) rfl ?_
       refine ol_r (r_fa (o' := 0) rfl fl73_0 rfl) rfl ?_
       refine ol_r (r_ld (id := 7) rfl rfl rfl sc3) rfl ?_
       refine ol_r (r_mul rfl rfl (by omega)) rfl ?_
       refine ol_r (r_move rfl) rfl ?_
       refine ol_r (r_add rfl rfl (by omega)) rfl ?_
       refine ol_r (r_build rfl (fun _ => bd36_0_1_2 _ _ _ _)) rfl ?_
       refine ol_bs1 86 rfl rfl rw30 rfl rfl rfl fun a86 => ?_
       refine ol_append1 (id := 3005) (id2 := 86) rfl rfl rfl rfl rfl rw30 (by omega) rfl fun a87 c87 => ?_
       refine ol_store (id := 5) rfl rfl rfl rfl sz30 rfl rfl (by first | decide | exact Nat.zero_lt_succ _ | simp) ?_
       refine ol_nil (to_k0 (fun _ _ h => h) (hK26 _ _ _ _ _ ?_))
       clear hK26
       refine wp_reg ?_
       refine ol_r (r_add rfl rfl (by omega)) rfl ?_
       refine ol_r (r_move rfl) rfl ?_
       refine ol_nil (to_k0 (fun _ _ h => h) (hK23 ((t + 1, _, _, _)) _ _ ?_ ?_ (sub_cons rfl sub_nil) (sub_cons rfl (sub_cons rfl (sub_cons rfl (sub_cons rfl (sub_cons rfl (sub_cons rfl (sub_cons rfl (sub_cons rfl sub_nil)))))))) (by exact (subH_blk rfl (sub_cons rfl sub_nil) (subH_row rfl (by dsimp only; (rw [take_succ_get hx55, List.map_append, ← List.append_assoc, Enc.enc_append, List.map_cons, List.map_nil, crossOf_eq hgi, hpe]; simp only [h60n, h71d]; rfl)) subH_nil))) (subH_same rfl (subH_same rfl (subH_same rfl (subH_same rfl (subH_same rfl (subH_same rfl (subH_same rfl (subH_same rfl (subH_same rfl subH_nil)))))))))))
       ·try dsimp only
        exact ⟨by omega, by omega⟩
       ·try dsimp only
        omega
      ·refine wp_exit' (to_k0 (fun _ _ h => h) (hK21 _ _ _ _ _ ?_))
       clear hK21
       refine wp_reg ?_
       refine ol_r (r_ld (id := 6) rfl rfl rfl sc3) rfl ?_
       refine ol_r (r_add rfl rfl (by omega)) rfl ?_
       refine ol_store (id := 6) rfl rfl rfl rfl sz3 rfl rfl (by first | decide | exact Nat.zero_lt_succ _ | simp) ?_
       refine ol_nil (QP.of (hn ((_, _, _)) _ _ ?_ (by exact (subH_blk rfl (sub_cons rfl sub_nil) (subH_blk rfl (sub_cons rfl sub_nil) (subH_row rfl (by (rw [crossN_succ hx, List.take_of_length_le (show (gIdx gs x.1 x.2 gs.length).length ≤ t by omega)])) subH_nil)))) (subH_same rfl (subH_same rfl (subH_same rfl subH_nil)))) (fun _ _ h => h))
       try dsimp only
       omega
  ·rintro s dd hI
   refine (to_k0 (fun _ _ h => h) (hK4 _ _ _ _ _ ?_))
   clear hK4
   refine wp_seq' fun K29 hK29 => ?_
   refine wp_reg ?_
   refine ol_r (r_ld (id := 5) rfl rfl rfl sc30) rfl ?_
   refine ol_r (r_assign rfl) rfl ?_
   refine ol_nil (to_k0 (fun _ _ h => h) (hK29 _ _ _ _ _ ?_))
   clear hK29
   refine hQ.ret (rvs1 (rv_t rfl)) (fun _ _ h => h) fun w hb hs hB hkd => ?_
   exact ⟨_, _, _, rfl, hb, hs.ok 3005 _ rfl⟩
  ·exact fun t dd hI => hI.elim
end Go.Proofs.Ytbbhcffkleplnaa
