/-
  Scale, rounded to the nearest.
-/
import Derived.Test.YtogcclagmobkiaaScale
import Derived.Test.YtogcclagmobkiaaNearM
namespace Go.Proofs.Ytogcclagmobkiaa
open Go Go.RowKit Hx
set_option linter.unusedVariables false
set_option linter.unusedSimpArgs false
set_option maxRecDepth 8000
theorem retI {x y : Int} (h : x = y) : Ending.returned (Value.tuple #[.int .i64 x, .int .i64 0]) = Ending.returned (Value.tuple #[.int .i64 y, .int .i64 0]) := by rw [h]
theorem near_away {r d : Int} {m : Bool} : (decide (0 < cmpI r (d - r)) || decide (cmpI r (d - r) = 0) && !m) = true ↔ (d - r < r ∨ d - r = r ∧ m = false) := by
  unfold cmpI
  by_cases h1 : r < d - r
  · rw [if_pos h1]
    simp
    omega
  · rw [if_neg h1]
    by_cases h2 : d - r < r
    · rw [if_pos h2]
      simp [h2]
    · rw [if_neg h2]
      have h3 : d - r = r := by omega
      cases m <;> simp [h3]
theorem nv1 {a num den : Int} (h : a < 0) (h1 : 0 < -a * num % den) (h2 : (decide (0 < cmpI (-a * num % den) (den - -a * num % den)) || decide (cmpI (-a * num % den) (den - -a * num % den) = 0) && !decide (a < 0)) = true) : -(-a * num / den + 1) = nearV a num den := by
  have e : nearV a num den = -nearP (-a * num) den true := if_pos h
  rw [decide_eq_true h] at h2
  rw [e, nearP, if_pos ⟨h1, near_away.1 h2⟩]
theorem nv2 {a num den : Int} (h : a < 0) (h1 : 0 < -a * num % den) (h2 : (decide (0 < cmpI (-a * num % den) (den - -a * num % den)) || decide (cmpI (-a * num % den) (den - -a * num % den) = 0) && !decide (a < 0)) = false) : -(-a * num / den) = nearV a num den := by
  have e : nearV a num den = -nearP (-a * num) den true := if_pos h
  rw [decide_eq_true h] at h2
  rw [e, nearP, if_neg (fun h3 => by rw [near_away.2 h3.2] at h2; cases h2), Int.add_zero]
theorem nv3 {a num den : Int} (h : a < 0) (h1 : ¬0 < -a * num % den) : -(-a * num / den) = nearV a num den := by
  have e : nearV a num den = -nearP (-a * num) den true := if_pos h
  rw [e, nearP, if_neg (fun h3 => h1 h3.1), Int.add_zero]
theorem pv1 {a num den : Int} (h : ¬a < 0) (h1 : 0 < a * num % den) (h2 : (decide (0 < cmpI (a * num % den) (den - a * num % den)) || decide (cmpI (a * num % den) (den - a * num % den) = 0) && !decide (a < 0)) = true) : a * num / den + 1 = nearV a num den := by
  have e : nearV a num den = nearP (a * num) den false := if_neg h
  rw [decide_eq_false h] at h2
  rw [e, nearP, if_pos ⟨h1, near_away.1 h2⟩]
theorem pv2 {a num den : Int} (h : ¬a < 0) (h1 : 0 < a * num % den) (h2 : (decide (0 < cmpI (a * num % den) (den - a * num % den)) || decide (cmpI (a * num % den) (den - a * num % den) = 0) && !decide (a < 0)) = false) : a * num / den = nearV a num den := by
  have e : nearV a num den = nearP (a * num) den false := if_neg h
  rw [decide_eq_false h] at h2
  rw [e, nearP, if_neg (fun h3 => by rw [near_away.2 h3.2] at h2; cases h2), Int.add_zero]
theorem pv3 {a num den : Int} (h : ¬a < 0) (h1 : ¬0 < a * num % den) : a * num / den = nearV a num den := by
  have e : nearV a num den = nearP (a * num) den false := if_neg h
  rw [e, nearP, if_neg (fun h3 => h1 h3.1), Int.add_zero]
theorem quant_ScaleNear (a num den : Int) (w : World) (ha : -4294967295 ≤ a ∧ a ≤ 4294967295) (hn : 0 ≤ num ∧ num ≤ 4294967295) (hd : 1 ≤ den ∧ den ≤ 4294967295) (hx : 0 ≤ a → 0 ≤ a * num ∧ a * num ≤ 1000000000000000000) (hx' : a < 0 → 0 ≤ -a * num ∧ -a * num ≤ 1000000000000000000) :
    Calls Try.prog 159 #[.int .i64 a, .int .i64 num, .int .i64 den, .int .i64 4] w fun e w' => e = .returned (.tuple #[.int .i64 (nearV a num den), .int .i64 0]) ∧ Below w.heap.size w w' := by
  have hq : ∀ x : Int, 0 ≤ x → 0 ≤ x / den ∧ x / den ≤ x ∧ 0 ≤ x % den ∧ x % den < den := fun x h => ⟨Int.ediv_nonneg h (by omega), Int.ediv_le_self _ h, Int.emod_nonneg _ (by omega), Int.emod_lt_of_pos _ (by omega)⟩
  refine enterQ (N := 88) (C := fun _ => True) (H := []) (B := w.heap.size) (args := [_, _, _, _]) Try.func159 rfl rfl rfl (Nat.le_refl _) (Sat.nil _ _) fun Q hQ => ?_
  refine wp_seq' fun K1 hK1 => ?_
  refine wp_reg ?_
  refine ol_box 7 rfl rfl rfl fun b7 => ?_
  refine ol_r (r_assign rfl) rfl ?_
  refine ol_r (r_assign rfl) rfl ?_
  refine ol_nil (to_k0 (fun _ _ h => h) (hK1 _ _ _ _ _ ?_))
  clear hK1
  refine wp_seq' fun K2 hK2 => ?_
  refine wp_reg ?_
  refine ol_call rfl rfl cb180 rfl (fun w1 hb1 hs1 hB1 => Calls.mono (quant_ways _) ?_)
  rintro e w2 ⟨a18, n18, c18, rfl, hf18⟩
  refine After.fresh (id := 18) rfl hb1 hs1 hB1 hf18 ?_
  have hl18 := hf18.len; clear hf18 hB1 hs1 hb1 w2 w1
  refine ol_r (r_assign rfl) rfl ?_
  refine ol_nil (to_k0 (fun _ _ h => h) (hK2 _ _ _ _ _ ?_))
  clear hK2
  refine wp_seq' fun K3 hK3 => ?_
  refine wp_reg ?_
  have hn18 : n18 = 5 := by rw [← hl18]; rfl
  refine ol_r (r_move rfl) rfl ?_
  refine ol_r (r_func rfl) rfl ?_
  refine ol_call rfl rfl cb181 rfl (fun w1 hb1 hs1 hB1 => Calls.mono (indexFunc_way _ _ _ waysL _ _ (fun x => decide (x.1 = 4)) 3 _ (Sat.rd hs1 (E := encWay) (id := 18) rfl rfl) cb182 rfl (fun x w' _ h1 h2 => scale_is x 4 _ w' ((hs1.blk (id := 7) rfl).at h1 h2))) ?_)
  rintro e w2 ⟨rfl, hb2⟩
  refine After.below rfl hb1 hs1 hB1 hb2 ?_
  clear hb2 hB1 hs1 hb1 w2 w1
  refine ol_r (r_assign rfl) rfl ?_
  refine ol_nil (to_k0 (fun _ _ h => h) (hK3 _ _ _ _ _ ?_))
  clear hK3
  refine wp_seq' fun K4 hK4 => ?_
  refine wp_seq' fun K5 hK5 => ?_
  refine wp_reg ?_
  refine ol_r (r_move rfl) rfl ?_
  refine ol_r (r_lss rfl rfl) rfl ?_
  refine ol_nil (to_k0 (fun _ _ h => h) (hK5 _ _ _ _ _ ?_))
  clear hK5
  refine wp_condD rfl (fun hc23 => ?_) (fun hc23 => ?_)
  ·exfalso
   omega
  ·refine wp_skip' (to_k0 (fun _ _ h => h) (hK4 _ _ _ _ _ ?_))
   clear hK4
   refine wp_seq' fun K6 hK6 => ?_
   refine wp_seq' fun K7 hK7 => ?_
   refine wp_reg ?_
   refine ol_r (r_move rfl) rfl ?_
   refine ol_r (r_leq rfl rfl) rfl ?_
   refine ol_r (r_move rfl) rfl ?_
   refine ol_split (d := 26) rfl (fun hs26 => ?_) (fun hs26 => ?_)
   ·have phs26 := hs26; try simp only [decide_eq_true_eq, decide_eq_false_iff_not, Bool.not_eq_true', Bool.not_eq_false', Bool.not_true, Bool.not_false] at phs26
    refine ol_s rfl rfl hs26 rfl ?_
    refine ol_s rfl rfl hs26 rfl ?_
    refine ol_r (r_pickT rfl hs26 rfl) rfl ?_
    refine ol_nil (to_k0 (fun _ _ h => h) (hK7 _ _ _ _ _ ?_))
    clear hK7
    refine wp_condT rfl ?_
    refine wp_seq' fun K8 hK8 => ?_
    refine wp_reg ?_
    refine ol_r (r_assign rfl) rfl ?_
    refine ol_r (r_assign rfl) rfl ?_
    refine ol_nil (to_k0 (fun _ _ h => h) (hK8 _ _ _ _ _ ?_))
    clear hK8
    refine hQ.ret (rvs2 (rv_t rfl) (rv_t rfl)) (fun _ _ h => h) fun w hb hs hB hkd => ?_
    exfalso
    omega
   ·have phs26 := hs26; try simp only [decide_eq_true_eq, decide_eq_false_iff_not, Bool.not_eq_true', Bool.not_eq_false', Bool.not_true, Bool.not_false] at phs26
    refine ol_g rfl rfl hs26 ?_
    refine ol_r (r_move rfl) rfl ?_
    refine ol_g rfl rfl hs26 ?_
    refine ol_r (r_lss rfl rfl) rfl ?_
    refine ol_r (r_pickF rfl hs26 rfl) rfl ?_
    refine ol_nil (to_k0 (fun _ _ h => h) (hK7 _ _ _ _ _ ?_))
    clear hK7
    refine wp_condD rfl (fun hc29 => ?_) (fun hc29 => ?_)
    ·exfalso
     omega
    ·refine wp_skip' (to_k0 (fun _ _ h => h) (hK6 _ _ _ _ _ ?_))
     clear hK6
     refine wp_seq' fun K9 hK9 => ?_
     refine wp_reg ?_
     refine ol_r (r_move rfl) rfl ?_
     refine ol_r (r_lss rfl rfl) rfl ?_
     refine ol_r (r_assign rfl) rfl ?_
     refine ol_nil (to_k0 (fun _ _ h => h) (hK9 _ _ _ _ _ ?_))
     clear hK9
     refine wp_seq' fun K10 hK10 => ?_
     refine wp_reg ?_
     refine ol_r (r_move rfl) rfl ?_
     refine ol_r (r_convg (k2 := .u64) (if a < 0 then a + 18446744073709551616 else a) rfl (by kernel_rfl) (by kernel_rfl) (by rw [IntKind.wrap_u64]; split <;> omega)) rfl ?_
     refine ol_r (r_assign rfl) rfl ?_
     refine ol_nil (to_k0 (fun _ _ h => h) (hK10 _ _ _ _ _ ?_))
     clear hK10
     refine wp_seq' fun K11 hK11 => ?_
     refine wp_seq' fun K12 hK12 => ?_
     refine wp_reg ?_
     refine ol_r (r_move rfl) rfl ?_
     refine ol_nil (to_k0 (fun _ _ h => h) (hK12 _ _ _ _ _ ?_))
     clear hK12
     refine wp_condD rfl (fun hc34 => ?_) (fun hc34 => ?_)
     ·refine wp_reg ?_
      refine ol_r (r_move rfl) rfl ?_
      refine ol_r (r_negg (-a) rfl (by rw [if_pos hc34]; exact wrapu_negneg (by omega))) rfl ?_
      refine ol_r (r_assign rfl) rfl ?_
      refine ol_nil (to_k0 (fun _ _ h => h) (hK11 _ _ _ _ _ ?_))
      clear hK11
      refine wp_seq' fun K13 hK13 => ?_
      refine wp_reg ?_
      first
        | (have hxa := hx' hc34
           have hqa := hq _ hxa.1)
        | (have hxa := hx (by omega)
           have hqa := hq _ hxa.1
           rw [if_neg hc34])
      refine ol_r (r_move rfl) rfl ?_
      refine ol_r (r_move rfl) rfl ?_
      refine ol_r (r_conv (k2 := .u64) rfl (by kernel_rfl) (by kernel_rfl) (wrap_u64 (by omega))) rfl ?_
      refine ol_call rfl rfl cb161 rfl (fun w1 hb1 hs1 hB1 => Calls.mono (bits_Mul64 (-a) num _ (by omega) hn (by omega)) ?_)
      rintro e w2 ⟨rfl, hb2⟩
      refine After.below rfl hb1 hs1 hB1 hb2 ?_
      clear hb2 hB1 hs1 hb1 w2 w1
      refine ol_r (r_move rfl) rfl ?_
      refine ol_r (r_extract rfl rfl) rfl ?_
      refine ol_r (r_extract rfl rfl) rfl ?_
      refine ol_r (r_assign rfl) rfl ?_
      refine ol_r (r_assign rfl) rfl ?_
      refine ol_nil (to_k0 (fun _ _ h => h) (hK13 _ _ _ _ _ ?_))
      clear hK13
      refine wp_seq' fun K14 hK14 => ?_
      refine wp_seq' fun K15 hK15 => ?_
      refine wp_reg ?_
      refine ol_r (r_move rfl) rfl ?_
      refine ol_r (r_move rfl) rfl ?_
      refine ol_r (r_conv (k2 := .u64) rfl (by kernel_rfl) (by kernel_rfl) (wrap_u64 (by omega))) rfl ?_
      refine ol_r (r_geq rfl rfl) rfl ?_
      refine ol_nil (to_k0 (fun _ _ h => h) (hK15 _ _ _ _ _ ?_))
      clear hK15
      refine wp_condD rfl (fun hc47 => ?_) (fun hc47 => ?_)
      ·exfalso
       omega
      ·refine wp_skip' (to_k0 (fun _ _ h => h) (hK14 _ _ _ _ _ ?_))
       clear hK14
       refine wp_seq' fun K16 hK16 => ?_
       refine wp_reg ?_
       refine ol_r (r_move rfl) rfl ?_
       refine ol_r (r_move rfl) rfl ?_
       refine ol_r (r_move rfl) rfl ?_
       refine ol_r (r_conv (k2 := .u64) rfl (by kernel_rfl) (by kernel_rfl) (wrap_u64 (by omega))) rfl ?_
       refine ol_call rfl rfl cb163 rfl (fun w1 hb1 hs1 hB1 => Calls.mono (bits_Div64 (-a * num) den _ (by omega) (by omega)) ?_)
       rintro e w2 ⟨rfl, hb2⟩
       refine After.below rfl hb1 hs1 hB1 hb2 ?_
       clear hb2 hB1 hs1 hb1 w2 w1
       refine ol_r (r_move rfl) rfl ?_
       refine ol_r (r_extract rfl rfl) rfl ?_
       refine ol_r (r_extract rfl rfl) rfl ?_
       refine ol_r (r_assign rfl) rfl ?_
       refine ol_r (r_assign rfl) rfl ?_
       refine ol_nil (to_k0 (fun _ _ h => h) (hK16 _ _ _ _ _ ?_))
       clear hK16
       refine wp_seq' fun K17 hK17 => ?_
       refine wp_seq' fun K18 hK18 => ?_
       refine wp_regq (by kernel_rfl) (by kernel_rfl) ?_
       refine ql_r (r_move rfl) rfl ?_
       refine ql_r (r_gtr rfl rfl) rfl ?_
       refine ql_r (r_move rfl) rfl ?_
       refine ql_split (d := 58) rfl (fun hs58 => ?_) (fun hs58 => ?_)
       ·have phs58 := hs58; try simp only [decide_eq_true_eq, decide_eq_false_iff_not, Bool.not_eq_true', Bool.not_eq_false', Bool.not_true, Bool.not_false] at phs58
        refine ql_g rfl rfl hs58 ?_
        refine ql_r (r_move rfl) rfl ?_
        refine ql_g rfl rfl hs58 ?_
        refine ql_r (r_leq rfl rfl) rfl ?_
        refine ql_r (r_pickT rfl hs58 rfl) rfl ?_
        refine ql_r (r_move rfl) rfl ?_
        refine ql_split (d := 62) rfl (fun hs62 => ?_) (fun hs62 => ?_)
        ·have phs62 := hs62; try simp only [decide_eq_true_eq, decide_eq_false_iff_not, Bool.not_eq_true', Bool.not_eq_false', Bool.not_true, Bool.not_false] at phs62
         refine ql_g rfl rfl hs62 ?_
         refine ql_r (r_move rfl) rfl ?_
         refine ql_g rfl rfl hs62 ?_
         refine ql_r (r_move rfl) rfl ?_
         refine ql_g rfl rfl hs62 ?_
         refine ql_ixo (id := 18) encWay waysL rfl rfl rfl rfl sl178 (by omega) (by omega) rfl fun x65 hx65 => ?_
         try simp only [Int.toNat_natCast] at hx65
         try simp only [Int.toNat_natCast] at hx65
         refine ql_g rfl rfl hs62 ?_
         have h65 := Option.some.inj (hx65.symm.trans (show _ = some ((4, 191) : Int × FuncId) from rfl))
         subst h65
         refine ql_r (r_faO (id := 18) rfl rfl rfl hx65 fl183_1) rfl ?_
         refine ql_g rfl rfl hs62 ?_
         refine ql_r (r_ldw rfl (fun w1 hb1 hs1 hB1 => ld_ownF (id := 18) (o := 1) hs1 rfl rfl sc181 hx65 rfl)) rfl ?_
         refine ql_g rfl rfl hs62 ?_
         refine ql_r (r_move rfl) rfl ?_
         refine ql_g rfl rfl hs62 ?_
         refine ql_r (r_move rfl) rfl ?_
         refine ql_g rfl rfl hs62 ?_
         refine ql_r (r_move rfl) rfl ?_
         refine ql_g rfl rfl hs62 ?_
         refine ql_r (r_move rfl) rfl ?_
         refine ql_g rfl rfl hs62 ?_
         refine ql_r (r_conv (k2 := .u64) rfl (by kernel_rfl) (by kernel_rfl) (wrap_u64 (by omega))) rfl ?_
         refine ql_g rfl rfl hs62 ?_
         refine ql_r (r_move rfl) rfl ?_
         refine ql_g rfl rfl hs62 ?_
         refine ql_r (r_subg _ rfl rfl (wrap_u64 (by omega))) rfl ?_
         refine ql_g rfl rfl hs62 ?_
         refine ql_call rfl rfl cb183 rfl (fun w1 hb1 hs1 hB1 => cmp_Compareu _ _ _) ?_
         refine ql_g rfl rfl hs62 ?_
         refine ql_call rfl rfl cb191 rfl (fun w1 hb1 hs1 hB1 => way_near _ _ _ _) ?_
         refine ql_r (r_pickT rfl hs62 rfl) rfl ?_
         refine ql_nil (to_k0 (fun _ _ h => h) (hK18 _ _ _ _ _ ?_))
         clear hK18
         refine wp_cond' rfl (fun hc77 => ?_) (fun hc77 => ?_)
         ·refine wp_reg ?_
          refine ol_r (r_move rfl) rfl ?_
          refine ol_r (r_addg _ rfl rfl (wrap_u64 (by omega))) rfl ?_
          refine ol_r (r_assign rfl) rfl ?_
          refine ol_nil (to_k0 (fun _ _ h => h) (hK17 _ _ _ _ _ ?_))
          clear hK17
          refine wp_seq' fun K19 hK19 => ?_
          refine wp_seq' fun K20 hK20 => ?_
          refine wp_reg ?_
          refine ol_r (r_move rfl) rfl ?_
          refine ol_r (r_gtr rfl rfl) rfl ?_
          refine ol_nil (to_k0 (fun _ _ h => h) (hK20 _ _ _ _ _ ?_))
          clear hK20
          refine wp_condD rfl (fun hc81 => ?_) (fun hc81 => ?_)
          ·exfalso
           omega
          ·refine wp_skip' (to_k0 (fun _ _ h => h) (hK19 _ _ _ _ _ ?_))
           clear hK19
           refine wp_seq' fun K21 hK21 => ?_
           refine wp_seq' fun K22 hK22 => ?_
           refine wp_reg ?_
           refine ol_r (r_move rfl) rfl ?_
           refine ol_nil (to_k0 (fun _ _ h => h) (hK22 _ _ _ _ _ ?_))
           clear hK22
           refine wp_condD rfl (fun hc82 => ?_) (fun hc82 => ?_)
           ·refine wp_seq' fun K23 hK23 => ?_
            refine wp_reg ?_
            refine ol_r (r_move rfl) rfl ?_
            refine ol_r (r_conv (k2 := .i64) rfl (by kernel_rfl) (by kernel_rfl) (IntWalk.i64_in _ (by omega))) rfl ?_
            refine ol_r (r_neg rfl (by omega)) rfl ?_
            refine ol_r (r_assign rfl) rfl ?_
            refine ol_r (r_assign rfl) rfl ?_
            refine ol_nil (to_k0 (fun _ _ h => h) (hK23 _ _ _ _ _ ?_))
            clear hK23
            refine hQ.ret (rvs2 (rv_t rfl) (rv_t rfl)) (fun _ _ h => h) fun w hb hs hB hkd => ?_
            exact ⟨retI (nv1 hc34 phs58 hc77), hb⟩
           ·refine wp_skip' (to_k0 (fun _ _ h => h) (hK21 _ _ _ _ _ ?_))
            clear hK21
            refine wp_seq' fun K24 hK24 => ?_
            refine wp_reg ?_
            refine ol_r (r_move rfl) rfl ?_
            refine ol_r (r_conv (k2 := .i64) rfl (by kernel_rfl) (by kernel_rfl) (IntWalk.i64_in _ (by omega))) rfl ?_
            refine ol_r (r_assign rfl) rfl ?_
            refine ol_r (r_assign rfl) rfl ?_
            refine ol_nil (to_k0 (fun _ _ h => h) (hK24 _ _ _ _ _ ?_))
            clear hK24
            refine hQ.ret (rvs2 (rv_t rfl) (rv_t rfl)) (fun _ _ h => h) fun w hb hs hB hkd => ?_
            exfalso
            omega
         ·refine wp_skip' (to_k0 (fun _ _ h => h) (hK17 _ _ _ _ _ ?_))
          clear hK17
          refine wp_seq' fun K25 hK25 => ?_
          refine wp_seq' fun K26 hK26 => ?_
          refine wp_reg ?_
          refine ol_r (r_move rfl) rfl ?_
          refine ol_r (r_gtr rfl rfl) rfl ?_
          refine ol_nil (to_k0 (fun _ _ h => h) (hK26 _ _ _ _ _ ?_))
          clear hK26
          refine wp_condD rfl (fun hc81 => ?_) (fun hc81 => ?_)
          ·exfalso
           omega
          ·refine wp_skip' (to_k0 (fun _ _ h => h) (hK25 _ _ _ _ _ ?_))
           clear hK25
           refine wp_seq' fun K27 hK27 => ?_
           refine wp_seq' fun K28 hK28 => ?_
           refine wp_reg ?_
           refine ol_r (r_move rfl) rfl ?_
           refine ol_nil (to_k0 (fun _ _ h => h) (hK28 _ _ _ _ _ ?_))
           clear hK28
           refine wp_condD rfl (fun hc82 => ?_) (fun hc82 => ?_)
           ·refine wp_seq' fun K29 hK29 => ?_
            refine wp_reg ?_
            refine ol_r (r_move rfl) rfl ?_
            refine ol_r (r_conv (k2 := .i64) rfl (by kernel_rfl) (by kernel_rfl) (IntWalk.i64_in _ (by omega))) rfl ?_
            refine ol_r (r_neg rfl (by omega)) rfl ?_
            refine ol_r (r_assign rfl) rfl ?_
            refine ol_r (r_assign rfl) rfl ?_
            refine ol_nil (to_k0 (fun _ _ h => h) (hK29 _ _ _ _ _ ?_))
            clear hK29
            refine hQ.ret (rvs2 (rv_t rfl) (rv_t rfl)) (fun _ _ h => h) fun w hb hs hB hkd => ?_
            exact ⟨retI (nv2 hc34 phs58 hc77), hb⟩
           ·refine wp_skip' (to_k0 (fun _ _ h => h) (hK27 _ _ _ _ _ ?_))
            clear hK27
            refine wp_seq' fun K30 hK30 => ?_
            refine wp_reg ?_
            refine ol_r (r_move rfl) rfl ?_
            refine ol_r (r_conv (k2 := .i64) rfl (by kernel_rfl) (by kernel_rfl) (IntWalk.i64_in _ (by omega))) rfl ?_
            refine ol_r (r_assign rfl) rfl ?_
            refine ol_r (r_assign rfl) rfl ?_
            refine ol_nil (to_k0 (fun _ _ h => h) (hK30 _ _ _ _ _ ?_))
            clear hK30
            refine hQ.ret (rvs2 (rv_t rfl) (rv_t rfl)) (fun _ _ h => h) fun w hb hs hB hkd => ?_
            exfalso
            omega
        ·have phs62 := hs62; try simp only [decide_eq_true_eq, decide_eq_false_iff_not, Bool.not_eq_true', Bool.not_eq_false', Bool.not_true, Bool.not_false] at phs62
         refine ql_s rfl rfl hs62 rfl ?_
         refine ql_s rfl rfl hs62 rfl ?_
         refine ql_s rfl rfl hs62 rfl ?_
         refine ql_s rfl rfl hs62 rfl ?_
         refine ql_s rfl rfl hs62 rfl ?_
         refine ql_s rfl rfl hs62 rfl ?_
         refine ql_s rfl rfl hs62 rfl ?_
         refine ql_s rfl rfl hs62 rfl ?_
         refine ql_s rfl rfl hs62 rfl ?_
         refine ql_s rfl rfl hs62 rfl ?_
         refine ql_s rfl rfl hs62 rfl ?_
         refine ql_s rfl rfl hs62 rfl ?_
         refine ql_s rfl rfl hs62 rfl ?_
         refine ql_s rfl rfl hs62 rfl ?_
         refine ql_r (r_pickF rfl hs62 rfl) rfl ?_
         refine ql_nil (to_k0 (fun _ _ h => h) (hK18 _ _ _ _ _ ?_))
         clear hK18
         refine wp_condF rfl ?_
         refine wp_skip' (to_k0 (fun _ _ h => h) (hK17 _ _ _ _ _ ?_))
         clear hK17
         refine wp_seq' fun K31 hK31 => ?_
         refine wp_seq' fun K32 hK32 => ?_
         refine wp_reg ?_
         refine ol_r (r_move rfl) rfl ?_
         refine ol_r (r_gtr rfl rfl) rfl ?_
         refine ol_nil (to_k0 (fun _ _ h => h) (hK32 _ _ _ _ _ ?_))
         clear hK32
         refine wp_condD rfl (fun hc81 => ?_) (fun hc81 => ?_)
         ·exfalso
          omega
         ·refine wp_skip' (to_k0 (fun _ _ h => h) (hK31 _ _ _ _ _ ?_))
          clear hK31
          refine wp_seq' fun K33 hK33 => ?_
          refine wp_seq' fun K34 hK34 => ?_
          refine wp_reg ?_
          refine ol_r (r_move rfl) rfl ?_
          refine ol_nil (to_k0 (fun _ _ h => h) (hK34 _ _ _ _ _ ?_))
          clear hK34
          refine wp_condD rfl (fun hc82 => ?_) (fun hc82 => ?_)
          ·refine wp_seq' fun K35 hK35 => ?_
           refine wp_reg ?_
           refine ol_r (r_move rfl) rfl ?_
           refine ol_r (r_conv (k2 := .i64) rfl (by kernel_rfl) (by kernel_rfl) (IntWalk.i64_in _ (by omega))) rfl ?_
           refine ol_r (r_neg rfl (by omega)) rfl ?_
           refine ol_r (r_assign rfl) rfl ?_
           refine ol_r (r_assign rfl) rfl ?_
           refine ol_nil (to_k0 (fun _ _ h => h) (hK35 _ _ _ _ _ ?_))
           clear hK35
           refine hQ.ret (rvs2 (rv_t rfl) (rv_t rfl)) (fun _ _ h => h) fun w hb hs hB hkd => ?_
           exfalso
           omega
          ·refine wp_skip' (to_k0 (fun _ _ h => h) (hK33 _ _ _ _ _ ?_))
           clear hK33
           refine wp_seq' fun K36 hK36 => ?_
           refine wp_reg ?_
           refine ol_r (r_move rfl) rfl ?_
           refine ol_r (r_conv (k2 := .i64) rfl (by kernel_rfl) (by kernel_rfl) (IntWalk.i64_in _ (by omega))) rfl ?_
           refine ol_r (r_assign rfl) rfl ?_
           refine ol_r (r_assign rfl) rfl ?_
           refine ol_nil (to_k0 (fun _ _ h => h) (hK36 _ _ _ _ _ ?_))
           clear hK36
           refine hQ.ret (rvs2 (rv_t rfl) (rv_t rfl)) (fun _ _ h => h) fun w hb hs hB hkd => ?_
           exfalso
           omega
       ·have phs58 := hs58; try simp only [decide_eq_true_eq, decide_eq_false_iff_not, Bool.not_eq_true', Bool.not_eq_false', Bool.not_true, Bool.not_false] at phs58
        refine ql_s rfl rfl hs58 rfl ?_
        refine ql_s rfl rfl hs58 rfl ?_
        refine ql_r (r_pickF rfl hs58 rfl) rfl ?_
        refine ql_r (r_move rfl) rfl ?_
        refine ql_s rfl rfl rfl rfl ?_
        refine ql_s rfl rfl rfl rfl ?_
        refine ql_s rfl rfl rfl rfl ?_
        refine ql_s rfl rfl rfl rfl ?_
        refine ql_s rfl rfl rfl rfl ?_
        refine ql_s rfl rfl rfl rfl ?_
        refine ql_s rfl rfl rfl rfl ?_
        refine ql_s rfl rfl rfl rfl ?_
        refine ql_s rfl rfl rfl rfl ?_
        refine ql_s rfl rfl rfl rfl ?_
        refine ql_s rfl rfl rfl rfl ?_
        refine ql_s rfl rfl rfl rfl ?_
        refine ql_s rfl rfl rfl rfl ?_
        refine ql_s rfl rfl rfl rfl ?_
        refine ql_r (r_pickF rfl rfl rfl) rfl ?_
        refine ql_nil (to_k0 (fun _ _ h => h) (hK18 _ _ _ _ _ ?_))
        clear hK18
        refine wp_condF rfl ?_
        refine wp_skip' (to_k0 (fun _ _ h => h) (hK17 _ _ _ _ _ ?_))
        clear hK17
        refine wp_seq' fun K37 hK37 => ?_
        refine wp_seq' fun K38 hK38 => ?_
        refine wp_reg ?_
        refine ol_r (r_move rfl) rfl ?_
        refine ol_r (r_gtr rfl rfl) rfl ?_
        refine ol_nil (to_k0 (fun _ _ h => h) (hK38 _ _ _ _ _ ?_))
        clear hK38
        refine wp_condD rfl (fun hc81 => ?_) (fun hc81 => ?_)
        ·exfalso
         omega
        ·refine wp_skip' (to_k0 (fun _ _ h => h) (hK37 _ _ _ _ _ ?_))
         clear hK37
         refine wp_seq' fun K39 hK39 => ?_
         refine wp_seq' fun K40 hK40 => ?_
         refine wp_reg ?_
         refine ol_r (r_move rfl) rfl ?_
         refine ol_nil (to_k0 (fun _ _ h => h) (hK40 _ _ _ _ _ ?_))
         clear hK40
         refine wp_condD rfl (fun hc82 => ?_) (fun hc82 => ?_)
         ·refine wp_seq' fun K41 hK41 => ?_
          refine wp_reg ?_
          refine ol_r (r_move rfl) rfl ?_
          refine ol_r (r_conv (k2 := .i64) rfl (by kernel_rfl) (by kernel_rfl) (IntWalk.i64_in _ (by omega))) rfl ?_
          refine ol_r (r_neg rfl (by omega)) rfl ?_
          refine ol_r (r_assign rfl) rfl ?_
          refine ol_r (r_assign rfl) rfl ?_
          refine ol_nil (to_k0 (fun _ _ h => h) (hK41 _ _ _ _ _ ?_))
          clear hK41
          refine hQ.ret (rvs2 (rv_t rfl) (rv_t rfl)) (fun _ _ h => h) fun w hb hs hB hkd => ?_
          exact ⟨retI (nv3 hc34 phs58), hb⟩
         ·refine wp_skip' (to_k0 (fun _ _ h => h) (hK39 _ _ _ _ _ ?_))
          clear hK39
          refine wp_seq' fun K42 hK42 => ?_
          refine wp_reg ?_
          refine ol_r (r_move rfl) rfl ?_
          refine ol_r (r_conv (k2 := .i64) rfl (by kernel_rfl) (by kernel_rfl) (IntWalk.i64_in _ (by omega))) rfl ?_
          refine ol_r (r_assign rfl) rfl ?_
          refine ol_r (r_assign rfl) rfl ?_
          refine ol_nil (to_k0 (fun _ _ h => h) (hK42 _ _ _ _ _ ?_))
          clear hK42
          refine hQ.ret (rvs2 (rv_t rfl) (rv_t rfl)) (fun _ _ h => h) fun w hb hs hB hkd => ?_
          exfalso
          omega
     ·refine wp_skip' (to_k0 (fun _ _ h => h) (hK11 _ _ _ _ _ ?_))
      clear hK11
      refine wp_seq' fun K43 hK43 => ?_
      refine wp_reg ?_
      first
        | (have hxa := hx' hc34
           have hqa := hq _ hxa.1)
        | (have hxa := hx (by omega)
           have hqa := hq _ hxa.1
           rw [if_neg hc34])
      refine ol_r (r_move rfl) rfl ?_
      refine ol_r (r_move rfl) rfl ?_
      refine ol_r (r_conv (k2 := .u64) rfl (by kernel_rfl) (by kernel_rfl) (wrap_u64 (by omega))) rfl ?_
      refine ol_call rfl rfl cb161 rfl (fun w1 hb1 hs1 hB1 => Calls.mono (bits_Mul64 a num _ (by omega) hn (by omega)) ?_)
      rintro e w2 ⟨rfl, hb2⟩
      refine After.below rfl hb1 hs1 hB1 hb2 ?_
      clear hb2 hB1 hs1 hb1 w2 w1
      refine ol_r (r_move rfl) rfl ?_
      refine ol_r (r_extract rfl rfl) rfl ?_
      refine ol_r (r_extract rfl rfl) rfl ?_
      refine ol_r (r_assign rfl) rfl ?_
      refine ol_r (r_assign rfl) rfl ?_
      refine ol_nil (to_k0 (fun _ _ h => h) (hK43 _ _ _ _ _ ?_))
      clear hK43
      refine wp_seq' fun K44 hK44 => ?_
      refine wp_seq' fun K45 hK45 => ?_
      refine wp_reg ?_
      refine ol_r (r_move rfl) rfl ?_
      refine ol_r (r_move rfl) rfl ?_
      refine ol_r (r_conv (k2 := .u64) rfl (by kernel_rfl) (by kernel_rfl) (wrap_u64 (by omega))) rfl ?_
      refine ol_r (r_geq rfl rfl) rfl ?_
      refine ol_nil (to_k0 (fun _ _ h => h) (hK45 _ _ _ _ _ ?_))
      clear hK45
      refine wp_condD rfl (fun hc47 => ?_) (fun hc47 => ?_)
      ·exfalso
       omega
      ·refine wp_skip' (to_k0 (fun _ _ h => h) (hK44 _ _ _ _ _ ?_))
       clear hK44
       refine wp_seq' fun K46 hK46 => ?_
       refine wp_reg ?_
       refine ol_r (r_move rfl) rfl ?_
       refine ol_r (r_move rfl) rfl ?_
       refine ol_r (r_move rfl) rfl ?_
       refine ol_r (r_conv (k2 := .u64) rfl (by kernel_rfl) (by kernel_rfl) (wrap_u64 (by omega))) rfl ?_
       refine ol_call rfl rfl cb163 rfl (fun w1 hb1 hs1 hB1 => Calls.mono (bits_Div64 (a * num) den _ (by omega) (by omega)) ?_)
       rintro e w2 ⟨rfl, hb2⟩
       refine After.below rfl hb1 hs1 hB1 hb2 ?_
       clear hb2 hB1 hs1 hb1 w2 w1
       refine ol_r (r_move rfl) rfl ?_
       refine ol_r (r_extract rfl rfl) rfl ?_
       refine ol_r (r_extract rfl rfl) rfl ?_
       refine ol_r (r_assign rfl) rfl ?_
       refine ol_r (r_assign rfl) rfl ?_
       refine ol_nil (to_k0 (fun _ _ h => h) (hK46 _ _ _ _ _ ?_))
       clear hK46
       refine wp_seq' fun K47 hK47 => ?_
       refine wp_seq' fun K48 hK48 => ?_
       refine wp_regq (by kernel_rfl) (by kernel_rfl) ?_
       refine ql_r (r_move rfl) rfl ?_
       refine ql_r (r_gtr rfl rfl) rfl ?_
       refine ql_r (r_move rfl) rfl ?_
       refine ql_split (d := 58) rfl (fun hs58 => ?_) (fun hs58 => ?_)
       ·have phs58 := hs58; try simp only [decide_eq_true_eq, decide_eq_false_iff_not, Bool.not_eq_true', Bool.not_eq_false', Bool.not_true, Bool.not_false] at phs58
        refine ql_g rfl rfl hs58 ?_
        refine ql_r (r_move rfl) rfl ?_
        refine ql_g rfl rfl hs58 ?_
        refine ql_r (r_leq rfl rfl) rfl ?_
        refine ql_r (r_pickT rfl hs58 rfl) rfl ?_
        refine ql_r (r_move rfl) rfl ?_
        refine ql_split (d := 62) rfl (fun hs62 => ?_) (fun hs62 => ?_)
        ·have phs62 := hs62; try simp only [decide_eq_true_eq, decide_eq_false_iff_not, Bool.not_eq_true', Bool.not_eq_false', Bool.not_true, Bool.not_false] at phs62
         refine ql_g rfl rfl hs62 ?_
         refine ql_r (r_move rfl) rfl ?_
         refine ql_g rfl rfl hs62 ?_
         refine ql_r (r_move rfl) rfl ?_
         refine ql_g rfl rfl hs62 ?_
         refine ql_ixo (id := 18) encWay waysL rfl rfl rfl rfl sl178 (by omega) (by omega) rfl fun x65 hx65 => ?_
         try simp only [Int.toNat_natCast] at hx65
         try simp only [Int.toNat_natCast] at hx65
         refine ql_g rfl rfl hs62 ?_
         have h65 := Option.some.inj (hx65.symm.trans (show _ = some ((4, 191) : Int × FuncId) from rfl))
         subst h65
         refine ql_r (r_faO (id := 18) rfl rfl rfl hx65 fl183_1) rfl ?_
         refine ql_g rfl rfl hs62 ?_
         refine ql_r (r_ldw rfl (fun w1 hb1 hs1 hB1 => ld_ownF (id := 18) (o := 1) hs1 rfl rfl sc181 hx65 rfl)) rfl ?_
         refine ql_g rfl rfl hs62 ?_
         refine ql_r (r_move rfl) rfl ?_
         refine ql_g rfl rfl hs62 ?_
         refine ql_r (r_move rfl) rfl ?_
         refine ql_g rfl rfl hs62 ?_
         refine ql_r (r_move rfl) rfl ?_
         refine ql_g rfl rfl hs62 ?_
         refine ql_r (r_move rfl) rfl ?_
         refine ql_g rfl rfl hs62 ?_
         refine ql_r (r_conv (k2 := .u64) rfl (by kernel_rfl) (by kernel_rfl) (wrap_u64 (by omega))) rfl ?_
         refine ql_g rfl rfl hs62 ?_
         refine ql_r (r_move rfl) rfl ?_
         refine ql_g rfl rfl hs62 ?_
         refine ql_r (r_subg _ rfl rfl (wrap_u64 (by omega))) rfl ?_
         refine ql_g rfl rfl hs62 ?_
         refine ql_call rfl rfl cb183 rfl (fun w1 hb1 hs1 hB1 => cmp_Compareu _ _ _) ?_
         refine ql_g rfl rfl hs62 ?_
         refine ql_call rfl rfl cb191 rfl (fun w1 hb1 hs1 hB1 => way_near _ _ _ _) ?_
         refine ql_r (r_pickT rfl hs62 rfl) rfl ?_
         refine ql_nil (to_k0 (fun _ _ h => h) (hK48 _ _ _ _ _ ?_))
         clear hK48
         refine wp_cond' rfl (fun hc77 => ?_) (fun hc77 => ?_)
         ·refine wp_reg ?_
          refine ol_r (r_move rfl) rfl ?_
          refine ol_r (r_addg _ rfl rfl (wrap_u64 (by omega))) rfl ?_
          refine ol_r (r_assign rfl) rfl ?_
          refine ol_nil (to_k0 (fun _ _ h => h) (hK47 _ _ _ _ _ ?_))
          clear hK47
          refine wp_seq' fun K49 hK49 => ?_
          refine wp_seq' fun K50 hK50 => ?_
          refine wp_reg ?_
          refine ol_r (r_move rfl) rfl ?_
          refine ol_r (r_gtr rfl rfl) rfl ?_
          refine ol_nil (to_k0 (fun _ _ h => h) (hK50 _ _ _ _ _ ?_))
          clear hK50
          refine wp_condD rfl (fun hc81 => ?_) (fun hc81 => ?_)
          ·exfalso
           omega
          ·refine wp_skip' (to_k0 (fun _ _ h => h) (hK49 _ _ _ _ _ ?_))
           clear hK49
           refine wp_seq' fun K51 hK51 => ?_
           refine wp_seq' fun K52 hK52 => ?_
           refine wp_reg ?_
           refine ol_r (r_move rfl) rfl ?_
           refine ol_nil (to_k0 (fun _ _ h => h) (hK52 _ _ _ _ _ ?_))
           clear hK52
           refine wp_condD rfl (fun hc82 => ?_) (fun hc82 => ?_)
           ·refine wp_seq' fun K53 hK53 => ?_
            refine wp_reg ?_
            refine ol_r (r_move rfl) rfl ?_
            refine ol_r (r_conv (k2 := .i64) rfl (by kernel_rfl) (by kernel_rfl) (IntWalk.i64_in _ (by omega))) rfl ?_
            refine ol_r (r_neg rfl (by omega)) rfl ?_
            refine ol_r (r_assign rfl) rfl ?_
            refine ol_r (r_assign rfl) rfl ?_
            refine ol_nil (to_k0 (fun _ _ h => h) (hK53 _ _ _ _ _ ?_))
            clear hK53
            refine hQ.ret (rvs2 (rv_t rfl) (rv_t rfl)) (fun _ _ h => h) fun w hb hs hB hkd => ?_
            exfalso
            omega
           ·refine wp_skip' (to_k0 (fun _ _ h => h) (hK51 _ _ _ _ _ ?_))
            clear hK51
            refine wp_seq' fun K54 hK54 => ?_
            refine wp_reg ?_
            refine ol_r (r_move rfl) rfl ?_
            refine ol_r (r_conv (k2 := .i64) rfl (by kernel_rfl) (by kernel_rfl) (IntWalk.i64_in _ (by omega))) rfl ?_
            refine ol_r (r_assign rfl) rfl ?_
            refine ol_r (r_assign rfl) rfl ?_
            refine ol_nil (to_k0 (fun _ _ h => h) (hK54 _ _ _ _ _ ?_))
            clear hK54
            refine hQ.ret (rvs2 (rv_t rfl) (rv_t rfl)) (fun _ _ h => h) fun w hb hs hB hkd => ?_
            exact ⟨retI (pv1 hc34 phs58 hc77), hb⟩
         ·refine wp_skip' (to_k0 (fun _ _ h => h) (hK47 _ _ _ _ _ ?_))
          clear hK47
          refine wp_seq' fun K55 hK55 => ?_
          refine wp_seq' fun K56 hK56 => ?_
          refine wp_reg ?_
          refine ol_r (r_move rfl) rfl ?_
          refine ol_r (r_gtr rfl rfl) rfl ?_
          refine ol_nil (to_k0 (fun _ _ h => h) (hK56 _ _ _ _ _ ?_))
          clear hK56
          refine wp_condD rfl (fun hc81 => ?_) (fun hc81 => ?_)
          ·exfalso
           omega
          ·refine wp_skip' (to_k0 (fun _ _ h => h) (hK55 _ _ _ _ _ ?_))
           clear hK55
           refine wp_seq' fun K57 hK57 => ?_
           refine wp_seq' fun K58 hK58 => ?_
           refine wp_reg ?_
           refine ol_r (r_move rfl) rfl ?_
           refine ol_nil (to_k0 (fun _ _ h => h) (hK58 _ _ _ _ _ ?_))
           clear hK58
           refine wp_condD rfl (fun hc82 => ?_) (fun hc82 => ?_)
           ·refine wp_seq' fun K59 hK59 => ?_
            refine wp_reg ?_
            refine ol_r (r_move rfl) rfl ?_
            refine ol_r (r_conv (k2 := .i64) rfl (by kernel_rfl) (by kernel_rfl) (IntWalk.i64_in _ (by omega))) rfl ?_
            refine ol_r (r_neg rfl (by omega)) rfl ?_
            refine ol_r (r_assign rfl) rfl ?_
            refine ol_r (r_assign rfl) rfl ?_
            refine ol_nil (to_k0 (fun _ _ h => h) (hK59 _ _ _ _ _ ?_))
            clear hK59
            refine hQ.ret (rvs2 (rv_t rfl) (rv_t rfl)) (fun _ _ h => h) fun w hb hs hB hkd => ?_
            exfalso
            omega
           ·refine wp_skip' (to_k0 (fun _ _ h => h) (hK57 _ _ _ _ _ ?_))
            clear hK57
            refine wp_seq' fun K60 hK60 => ?_
            refine wp_reg ?_
            refine ol_r (r_move rfl) rfl ?_
            refine ol_r (r_conv (k2 := .i64) rfl (by kernel_rfl) (by kernel_rfl) (IntWalk.i64_in _ (by omega))) rfl ?_
            refine ol_r (r_assign rfl) rfl ?_
            refine ol_r (r_assign rfl) rfl ?_
            refine ol_nil (to_k0 (fun _ _ h => h) (hK60 _ _ _ _ _ ?_))
            clear hK60
            refine hQ.ret (rvs2 (rv_t rfl) (rv_t rfl)) (fun _ _ h => h) fun w hb hs hB hkd => ?_
            exact ⟨retI (pv2 hc34 phs58 hc77), hb⟩
        ·have phs62 := hs62; try simp only [decide_eq_true_eq, decide_eq_false_iff_not, Bool.not_eq_true', Bool.not_eq_false', Bool.not_true, Bool.not_false] at phs62
         refine ql_s rfl rfl hs62 rfl ?_
         refine ql_s rfl rfl hs62 rfl ?_
         refine ql_s rfl rfl hs62 rfl ?_
         refine ql_s rfl rfl hs62 rfl ?_
         refine ql_s rfl rfl hs62 rfl ?_
         refine ql_s rfl rfl hs62 rfl ?_
         refine ql_s rfl rfl hs62 rfl ?_
         refine ql_s rfl rfl hs62 rfl ?_
         refine ql_s rfl rfl hs62 rfl ?_
         refine ql_s rfl rfl hs62 rfl ?_
         refine ql_s rfl rfl hs62 rfl ?_
         refine ql_s rfl rfl hs62 rfl ?_
         refine ql_s rfl rfl hs62 rfl ?_
         refine ql_s rfl rfl hs62 rfl ?_
         refine ql_r (r_pickF rfl hs62 rfl) rfl ?_
         refine ql_nil (to_k0 (fun _ _ h => h) (hK48 _ _ _ _ _ ?_))
         clear hK48
         refine wp_condF rfl ?_
         refine wp_skip' (to_k0 (fun _ _ h => h) (hK47 _ _ _ _ _ ?_))
         clear hK47
         refine wp_seq' fun K61 hK61 => ?_
         refine wp_seq' fun K62 hK62 => ?_
         refine wp_reg ?_
         refine ol_r (r_move rfl) rfl ?_
         refine ol_r (r_gtr rfl rfl) rfl ?_
         refine ol_nil (to_k0 (fun _ _ h => h) (hK62 _ _ _ _ _ ?_))
         clear hK62
         refine wp_condD rfl (fun hc81 => ?_) (fun hc81 => ?_)
         ·exfalso
          omega
         ·refine wp_skip' (to_k0 (fun _ _ h => h) (hK61 _ _ _ _ _ ?_))
          clear hK61
          refine wp_seq' fun K63 hK63 => ?_
          refine wp_seq' fun K64 hK64 => ?_
          refine wp_reg ?_
          refine ol_r (r_move rfl) rfl ?_
          refine ol_nil (to_k0 (fun _ _ h => h) (hK64 _ _ _ _ _ ?_))
          clear hK64
          refine wp_condD rfl (fun hc82 => ?_) (fun hc82 => ?_)
          ·refine wp_seq' fun K65 hK65 => ?_
           refine wp_reg ?_
           refine ol_r (r_move rfl) rfl ?_
           refine ol_r (r_conv (k2 := .i64) rfl (by kernel_rfl) (by kernel_rfl) (IntWalk.i64_in _ (by omega))) rfl ?_
           refine ol_r (r_neg rfl (by omega)) rfl ?_
           refine ol_r (r_assign rfl) rfl ?_
           refine ol_r (r_assign rfl) rfl ?_
           refine ol_nil (to_k0 (fun _ _ h => h) (hK65 _ _ _ _ _ ?_))
           clear hK65
           refine hQ.ret (rvs2 (rv_t rfl) (rv_t rfl)) (fun _ _ h => h) fun w hb hs hB hkd => ?_
           exfalso
           omega
          ·refine wp_skip' (to_k0 (fun _ _ h => h) (hK63 _ _ _ _ _ ?_))
           clear hK63
           refine wp_seq' fun K66 hK66 => ?_
           refine wp_reg ?_
           refine ol_r (r_move rfl) rfl ?_
           refine ol_r (r_conv (k2 := .i64) rfl (by kernel_rfl) (by kernel_rfl) (IntWalk.i64_in _ (by omega))) rfl ?_
           refine ol_r (r_assign rfl) rfl ?_
           refine ol_r (r_assign rfl) rfl ?_
           refine ol_nil (to_k0 (fun _ _ h => h) (hK66 _ _ _ _ _ ?_))
           clear hK66
           refine hQ.ret (rvs2 (rv_t rfl) (rv_t rfl)) (fun _ _ h => h) fun w hb hs hB hkd => ?_
           exfalso
           omega
       ·have phs58 := hs58; try simp only [decide_eq_true_eq, decide_eq_false_iff_not, Bool.not_eq_true', Bool.not_eq_false', Bool.not_true, Bool.not_false] at phs58
        refine ql_s rfl rfl hs58 rfl ?_
        refine ql_s rfl rfl hs58 rfl ?_
        refine ql_r (r_pickF rfl hs58 rfl) rfl ?_
        refine ql_r (r_move rfl) rfl ?_
        refine ql_s rfl rfl rfl rfl ?_
        refine ql_s rfl rfl rfl rfl ?_
        refine ql_s rfl rfl rfl rfl ?_
        refine ql_s rfl rfl rfl rfl ?_
        refine ql_s rfl rfl rfl rfl ?_
        refine ql_s rfl rfl rfl rfl ?_
        refine ql_s rfl rfl rfl rfl ?_
        refine ql_s rfl rfl rfl rfl ?_
        refine ql_s rfl rfl rfl rfl ?_
        refine ql_s rfl rfl rfl rfl ?_
        refine ql_s rfl rfl rfl rfl ?_
        refine ql_s rfl rfl rfl rfl ?_
        refine ql_s rfl rfl rfl rfl ?_
        refine ql_s rfl rfl rfl rfl ?_
        refine ql_r (r_pickF rfl rfl rfl) rfl ?_
        refine ql_nil (to_k0 (fun _ _ h => h) (hK48 _ _ _ _ _ ?_))
        clear hK48
        refine wp_condF rfl ?_
        refine wp_skip' (to_k0 (fun _ _ h => h) (hK47 _ _ _ _ _ ?_))
        clear hK47
        refine wp_seq' fun K67 hK67 => ?_
        refine wp_seq' fun K68 hK68 => ?_
        refine wp_reg ?_
        refine ol_r (r_move rfl) rfl ?_
        refine ol_r (r_gtr rfl rfl) rfl ?_
        refine ol_nil (to_k0 (fun _ _ h => h) (hK68 _ _ _ _ _ ?_))
        clear hK68
        refine wp_condD rfl (fun hc81 => ?_) (fun hc81 => ?_)
        ·exfalso
         omega
        ·refine wp_skip' (to_k0 (fun _ _ h => h) (hK67 _ _ _ _ _ ?_))
         clear hK67
         refine wp_seq' fun K69 hK69 => ?_
         refine wp_seq' fun K70 hK70 => ?_
         refine wp_reg ?_
         refine ol_r (r_move rfl) rfl ?_
         refine ol_nil (to_k0 (fun _ _ h => h) (hK70 _ _ _ _ _ ?_))
         clear hK70
         refine wp_condD rfl (fun hc82 => ?_) (fun hc82 => ?_)
         ·refine wp_seq' fun K71 hK71 => ?_
          refine wp_reg ?_
          refine ol_r (r_move rfl) rfl ?_
          refine ol_r (r_conv (k2 := .i64) rfl (by kernel_rfl) (by kernel_rfl) (IntWalk.i64_in _ (by omega))) rfl ?_
          refine ol_r (r_neg rfl (by omega)) rfl ?_
          refine ol_r (r_assign rfl) rfl ?_
          refine ol_r (r_assign rfl) rfl ?_
          refine ol_nil (to_k0 (fun _ _ h => h) (hK71 _ _ _ _ _ ?_))
          clear hK71
          refine hQ.ret (rvs2 (rv_t rfl) (rv_t rfl)) (fun _ _ h => h) fun w hb hs hB hkd => ?_
          exfalso
          omega
         ·refine wp_skip' (to_k0 (fun _ _ h => h) (hK69 _ _ _ _ _ ?_))
          clear hK69
          refine wp_seq' fun K72 hK72 => ?_
          refine wp_reg ?_
          refine ol_r (r_move rfl) rfl ?_
          refine ol_r (r_conv (k2 := .i64) rfl (by kernel_rfl) (by kernel_rfl) (IntWalk.i64_in _ (by omega))) rfl ?_
          refine ol_r (r_assign rfl) rfl ?_
          refine ol_r (r_assign rfl) rfl ?_
          refine ol_nil (to_k0 (fun _ _ h => h) (hK72 _ _ _ _ _ ?_))
          clear hK72
          refine hQ.ret (rvs2 (rv_t rfl) (rv_t rfl)) (fun _ _ h => h) fun w hb hs hB hkd => ?_
          exact ⟨retI (pv3 hc34 phs58), hb⟩
theorem ref1_size (a : Int) (w : World) (ha : -9223372036854775807 ≤ a ∧ a ≤ 9223372036854775807) : Calls Try.prog 162 #[.int .i64 a] w fun e w' => e = .returned (.int .u64 (if a < 0 then -a else a)) ∧ Below w.heap.size w w' := by
  refine enterQ (N := 10) (C := fun _ => True) (H := []) (B := w.heap.size) (args := [_]) Try.func162 rfl rfl rfl (Nat.le_refl _) (Sat.nil _ _) fun Q hQ => ?_
  refine wp_seq' fun K1 hK1 => ?_
  refine wp_reg ?_
  refine ol_r (r_assign rfl) rfl ?_
  refine ol_nil (to_k0 (fun _ _ h => h) (hK1 _ _ _ _ _ ?_))
  clear hK1
  refine wp_seq' fun K2 hK2 => ?_
  refine wp_seq' fun K3 hK3 => ?_
  refine wp_reg ?_
  refine ol_r (r_move rfl) rfl ?_
  refine ol_r (r_lss rfl rfl) rfl ?_
  refine ol_nil (to_k0 (fun _ _ h => h) (hK3 _ _ _ _ _ ?_))
  clear hK3
  refine wp_condD rfl (fun hc4 => ?_) (fun hc4 => ?_)
  ·refine wp_seq' fun K4 hK4 => ?_
   refine wp_reg ?_
   refine ol_r (r_move rfl) rfl ?_
   refine ol_r (r_convg (k2 := .u64) (a + 18446744073709551616) rfl (by kernel_rfl) (by kernel_rfl) (wrapu_neg (by omega))) rfl ?_
   refine ol_r (r_negg (-a) rfl (wrapu_negneg (by omega))) rfl ?_
   refine ol_r (r_assign rfl) rfl ?_
   refine ol_nil (to_k0 (fun _ _ h => h) (hK4 _ _ _ _ _ ?_))
   clear hK4
   refine hQ.ret (rvs1 (rv_t rfl)) (fun _ _ h => h) fun w hb hs hB hkd => ?_
   exact ⟨by rw [if_pos hc4], hb⟩
  ·refine wp_skip' (to_k0 (fun _ _ h => h) (hK2 _ _ _ _ _ ?_))
   clear hK2
   refine wp_seq' fun K5 hK5 => ?_
   refine wp_reg ?_
   refine ol_r (r_move rfl) rfl ?_
   refine ol_r (r_conv (k2 := .u64) rfl (by kernel_rfl) (by kernel_rfl) (wrap_u64 (by omega))) rfl ?_
   refine ol_r (r_assign rfl) rfl ?_
   refine ol_nil (to_k0 (fun _ _ h => h) (hK5 _ _ _ _ _ ?_))
   clear hK5
   refine hQ.ret (rvs1 (rv_t rfl)) (fun _ _ h => h) fun w hb hs hB hkd => ?_
   exact ⟨by rw [if_neg hc4], hb⟩
theorem ref1_moreNear (q r d : Int) (m : Bool) (w : World) (hr : 0 ≤ r ∧ r < d) (hd : d ≤ 4294967295) : Calls Try.prog 164 #[.int .u64 q, .int .u64 r, .int .u64 d, .bool m, .int .i64 4] w fun e w' => e = .returned (.bool (decide (0 < r ∧ (d - r < r ∨ d - r = r ∧ m = false)))) ∧ Below w.heap.size w w' := by
  refine enterQ (N := 40) (C := fun _ => True) (H := []) (B := w.heap.size) (args := [_, _, _, _, _]) Try.func164 rfl rfl rfl (Nat.le_refl _) (Sat.nil _ _) fun Q hQ => ?_
  refine wp_seq' fun K1 hK1 => ?_
  refine wp_reg ?_
  refine ol_r (r_assign rfl) rfl ?_
  refine ol_nil (to_k0 (fun _ _ h => h) (hK1 _ _ _ _ _ ?_))
  clear hK1
  refine wp_seq' fun K2 hK2 => ?_
  refine wp_seq' fun K3 hK3 => ?_
  refine wp_reg ?_
  refine ol_r (r_move rfl) rfl ?_
  refine ol_r (r_eql rfl rfl) rfl ?_
  refine ol_nil (to_k0 (fun _ _ h => h) (hK3 _ _ _ _ _ ?_))
  clear hK3
  refine wp_condD rfl (fun hc12 => ?_) (fun hc12 => ?_)
  ·refine wp_seq' fun K4 hK4 => ?_
   refine wp_reg ?_
   refine ol_r (r_assign rfl) rfl ?_
   refine ol_nil (to_k0 (fun _ _ h => h) (hK4 _ _ _ _ _ ?_))
   clear hK4
   refine hQ.ret (rvs1 (rv_t rfl)) (fun _ _ h => h) fun w hb hs hB hkd => ?_
   exact ⟨by rw [decide_eq_false (by omega)], hb⟩
  ·refine wp_skip' (to_k0 (fun _ _ h => h) (hK2 _ _ _ _ _ ?_))
   clear hK2
   refine wp_seq' fun K5 hK5 => ?_
   refine wp_seq' fun K6 hK6 => ?_
   refine wp_reg ?_
   refine ol_r (r_move rfl) rfl ?_
   refine ol_nil (to_k0 (fun _ _ h => h) (hK6 _ _ _ _ _ ?_))
   clear hK6
   refine wp_block' ?_
   refine wp_seq' fun K7 hK7 => ?_
   refine wp_reg ?_
   refine ol_r (r_eql rfl rfl) rfl ?_
   refine ol_r (r_assign rfl) rfl ?_
   refine ol_nil (to_k0 (fun _ _ h => h) (hK7 _ _ _ _ _ ?_))
   clear hK7
   refine wp_condD rfl (fun hc14 => ?_) (fun hc14 => ?_)
   ·exfalso
    omega
   ·refine wp_seq' fun K8 hK8 => ?_
    refine wp_reg ?_
    refine ol_r (r_eql rfl rfl) rfl ?_
    refine ol_r (r_assign rfl) rfl ?_
    refine ol_nil (to_k0 (fun _ _ h => h) (hK8 _ _ _ _ _ ?_))
    clear hK8
    refine wp_condD rfl (fun hc17 => ?_) (fun hc17 => ?_)
    ·exfalso
     omega
    ·refine wp_seq' fun K9 hK9 => ?_
     refine wp_reg ?_
     refine ol_r (r_eql rfl rfl) rfl ?_
     refine ol_r (r_assign rfl) rfl ?_
     refine ol_nil (to_k0 (fun _ _ h => h) (hK9 _ _ _ _ _ ?_))
     clear hK9
     refine wp_condD rfl (fun hc21 => ?_) (fun hc21 => ?_)
     ·exfalso
      omega
     ·refine wp_skip' (to_k0 (fun _ _ h => h) (hK5 _ _ _ _ _ ?_))
      clear hK5
      refine wp_seq' fun K10 hK10 => ?_
      refine wp_seq' fun K11 hK11 => ?_
      refine wp_reg ?_
      refine ol_r (r_move rfl) rfl ?_
      refine ol_r (r_move rfl) rfl ?_
      refine ol_r (r_move rfl) rfl ?_
      refine ol_r (r_subg _ rfl rfl (wrap_u64 (by omega))) rfl ?_
      refine ol_r (r_neq rfl rfl) rfl ?_
      refine ol_nil (to_k0 (fun _ _ h => h) (hK11 _ _ _ _ _ ?_))
      clear hK11
      refine wp_condD rfl (fun hc27 => ?_) (fun hc27 => ?_)
      ·refine wp_seq' fun K12 hK12 => ?_
       refine wp_reg ?_
       refine ol_r (r_move rfl) rfl ?_
       refine ol_r (r_move rfl) rfl ?_
       refine ol_r (r_move rfl) rfl ?_
       refine ol_r (r_subg _ rfl rfl (wrap_u64 (by omega))) rfl ?_
       refine ol_r (r_gtr rfl rfl) rfl ?_
       refine ol_r (r_assign rfl) rfl ?_
       refine ol_nil (to_k0 (fun _ _ h => h) (hK12 _ _ _ _ _ ?_))
       clear hK12
       refine hQ.ret (rvs1 (rv_t rfl)) (fun _ _ h => h) fun w hb hs hB hkd => ?_
       have e : (0 < r ∧ (d - r < r ∨ d - r = r ∧ m = false)) ↔ d - r < r := ⟨fun h => by omega, fun h => ⟨by omega, .inl h⟩⟩
       exact ⟨by rw [decide_eq_decide.2 e], hb⟩
      ·refine wp_skip' (to_k0 (fun _ _ h => h) (hK10 _ _ _ _ _ ?_))
       clear hK10
       refine wp_seq' fun K13 hK13 => ?_
       refine wp_seq' fun K14 hK14 => ?_
       refine wp_reg ?_
       refine ol_r (r_move rfl) rfl ?_
       refine ol_r (r_eql rfl rfl) rfl ?_
       refine ol_nil (to_k0 (fun _ _ h => h) (hK14 _ _ _ _ _ ?_))
       clear hK14
       refine wp_condD rfl (fun hc34 => ?_) (fun hc34 => ?_)
       ·refine wp_seq' fun K15 hK15 => ?_
        refine wp_reg ?_
        refine ol_r (r_move rfl) rfl ?_
        refine ol_r (r_not rfl) rfl ?_
        refine ol_r (r_assign rfl) rfl ?_
        refine ol_nil (to_k0 (fun _ _ h => h) (hK15 _ _ _ _ _ ?_))
        clear hK15
        refine hQ.ret (rvs1 (rv_t rfl)) (fun _ _ h => h) fun w hb hs hB hkd => ?_
        have e : (0 < r ∧ (d - r < r ∨ d - r = r ∧ m = false)) ↔ m = false := ⟨fun h => by rcases h.2 with h2 | h2; omega; exact h2.2, fun h => ⟨by omega, .inr ⟨by omega, h⟩⟩⟩
        exact ⟨by rw [decide_eq_decide.2 e]; cases m <;> rfl, hb⟩
       ·exfalso
        omega
theorem ref1_ScaleNear (a num den : Int) (w : World) (ha : -4294967295 ≤ a ∧ a ≤ 4294967295) (hn : 0 ≤ num ∧ num ≤ 4294967295) (hd : 1 ≤ den ∧ den ≤ 4294967295) (hx : 0 ≤ a → 0 ≤ a * num ∧ a * num ≤ 1000000000000000000) (hx' : a < 0 → 0 ≤ -a * num ∧ -a * num ≤ 1000000000000000000) :
    Calls Try.prog 122 #[.int .i64 a, .int .i64 num, .int .i64 den, .int .i64 4] w fun e w' => e = .returned (.tuple #[.int .i64 (nearV a num den), .int .i64 0]) ∧ Below w.heap.size w w' := by
  have hq : ∀ x : Int, 0 ≤ x → 0 ≤ x / den ∧ x / den ≤ x ∧ 0 ≤ x % den ∧ x % den < den := fun x h => ⟨Int.ediv_nonneg h (by omega), Int.ediv_le_self _ h, Int.emod_nonneg _ (by omega), Int.emod_lt_of_pos _ (by omega)⟩
  have hX : 0 ≤ (if a < 0 then -a else a) * num ∧ (if a < 0 then -a else a) * num ≤ 1000000000000000000 := by
    by_cases h : a < 0
    · rw [if_pos h]; exact hx' h
    · rw [if_neg h]; exact hx (by omega)
  have hS : 0 ≤ (if a < 0 then -a else a) ∧ (if a < 0 then -a else a) ≤ 4294967295 := by split <;> omega
  have hV : nearV a num den = if a < 0 then -nearP ((if a < 0 then -a else a) * num) den (decide (a < 0)) else nearP ((if a < 0 then -a else a) * num) den (decide (a < 0)) := by
    unfold nearV
    by_cases h : a < 0
    · rw [if_pos h, if_pos h, if_pos h, decide_eq_true h]
    · rw [if_neg h, if_neg h, if_neg h, decide_eq_false h]
  generalize hs : (if a < 0 then -a else a) = S at hX hS hV
  have hqa := hq _ hX.1
  refine enterQ (N := 64) (C := fun _ => True) (H := []) (B := w.heap.size) (args := [_, _, _, _]) Try.func122 rfl rfl rfl (Nat.le_refl _) (Sat.nil _ _) fun Q hQ => ?_
  refine wp_seq' fun K1 hK1 => ?_
  refine wp_reg ?_
  refine ol_r (r_assign rfl) rfl ?_
  refine ol_r (r_assign rfl) rfl ?_
  refine ol_nil (to_k0 (fun _ _ h => h) (hK1 _ _ _ _ _ ?_))
  clear hK1
  refine wp_seq' fun K2 hK2 => ?_
  refine wp_seq' fun K3 hK3 => ?_
  refine wp_reg ?_
  refine ol_r (r_move rfl) rfl ?_
  refine ol_call rfl rfl cb160 rfl (fun w1 hb1 hs1 hB1 => Calls.mono (ref1_outside _ _ _ _) ?_)
  rintro e w2 ⟨rfl, hb2⟩
  refine After.below rfl hb1 hs1 hB1 hb2 ?_
  clear hb2 hB1 hs1 hb1 w2 w1
  refine ol_nil (to_k0 (fun _ _ h => h) (hK3 _ _ _ _ _ ?_))
  clear hK3
  refine wp_condNB rfl (fun hc17 => ?_) (fun hc17 => ?_)
  ·exfalso
   (simp [inB] at hc17; done)
  ·refine wp_skip' (to_k0 (fun _ _ h => h) (hK2 _ _ _ _ _ ?_))
   clear hK2
   refine wp_seq' fun K4 hK4 => ?_
   refine wp_seq' fun K5 hK5 => ?_
   refine wp_reg ?_
   refine ol_r (r_move rfl) rfl ?_
   refine ol_r (r_lss rfl rfl) rfl ?_
   refine ol_r (r_move rfl) rfl ?_
   refine ol_split (d := 20) rfl (fun hs20 => ?_) (fun hs20 => ?_)
   ·have phs20 := hs20; try simp only [decide_eq_true_eq, decide_eq_false_iff_not, Bool.not_eq_true', Bool.not_eq_false', Bool.not_true, Bool.not_false] at phs20
    refine ol_s rfl rfl hs20 rfl ?_
    refine ol_s rfl rfl hs20 rfl ?_
    refine ol_r (r_pickT rfl hs20 rfl) rfl ?_
    refine ol_nil (to_k0 (fun _ _ h => h) (hK5 _ _ _ _ _ ?_))
    clear hK5
    refine wp_condT rfl ?_
    refine wp_seq' fun K6 hK6 => ?_
    refine wp_reg ?_
    refine ol_r (r_assign rfl) rfl ?_
    refine ol_r (r_assign rfl) rfl ?_
    refine ol_nil (to_k0 (fun _ _ h => h) (hK6 _ _ _ _ _ ?_))
    clear hK6
    refine hQ.ret (rvs2 (rv_t rfl) (rv_t rfl)) (fun _ _ h => h) fun w hb hs hB hkd => ?_
    first
      | (exfalso; omega)
   ·have phs20 := hs20; try simp only [decide_eq_true_eq, decide_eq_false_iff_not, Bool.not_eq_true', Bool.not_eq_false', Bool.not_true, Bool.not_false] at phs20
    refine ol_g rfl rfl hs20 ?_
    refine ol_r (r_move rfl) rfl ?_
    refine ol_g rfl rfl hs20 ?_
    refine ol_r (r_lss rfl rfl) rfl ?_
    refine ol_r (r_pickF rfl hs20 rfl) rfl ?_
    refine ol_nil (to_k0 (fun _ _ h => h) (hK5 _ _ _ _ _ ?_))
    clear hK5
    refine wp_condD rfl (fun hc23 => ?_) (fun hc23 => ?_)
    ·exfalso
     omega
    ·refine wp_skip' (to_k0 (fun _ _ h => h) (hK4 _ _ _ _ _ ?_))
     clear hK4
     refine wp_seq' fun K7 hK7 => ?_
     refine wp_reg ?_
     refine ol_r (r_move rfl) rfl ?_
     refine ol_call rfl rfl cb162 rfl (fun w1 hb1 hs1 hB1 => Calls.mono (ref1_size a _ (by omega)) ?_)
     rintro e w2 ⟨rfl, hb2⟩
     refine After.below rfl hb1 hs1 hB1 hb2 ?_
     clear hb2 hB1 hs1 hb1 w2 w1
     rw [hs]
     refine ol_r (r_move rfl) rfl ?_
     refine ol_r (r_conv (k2 := .u64) rfl (by kernel_rfl) (by kernel_rfl) (wrap_u64 (by omega))) rfl ?_
     refine ol_call rfl rfl cb161 rfl (fun w1 hb1 hs1 hB1 => Calls.mono (bits_Mul64 S num _ hS hn (by omega)) ?_)
     rintro e w2 ⟨rfl, hb2⟩
     refine After.below rfl hb1 hs1 hB1 hb2 ?_
     clear hb2 hB1 hs1 hb1 w2 w1
     refine ol_r (r_move rfl) rfl ?_
     refine ol_r (r_extract rfl rfl) rfl ?_
     refine ol_r (r_extract rfl rfl) rfl ?_
     refine ol_r (r_assign rfl) rfl ?_
     refine ol_r (r_assign rfl) rfl ?_
     refine ol_nil (to_k0 (fun _ _ h => h) (hK7 _ _ _ _ _ ?_))
     clear hK7
     refine wp_seq' fun K8 hK8 => ?_
     refine wp_reg ?_
     refine ol_r (r_move rfl) rfl ?_
     refine ol_r (r_conv (k2 := .u64) rfl (by kernel_rfl) (by kernel_rfl) (wrap_u64 (by omega))) rfl ?_
     refine ol_r (r_assign rfl) rfl ?_
     refine ol_nil (to_k0 (fun _ _ h => h) (hK8 _ _ _ _ _ ?_))
     clear hK8
     refine wp_seq' fun K9 hK9 => ?_
     refine wp_seq' fun K10 hK10 => ?_
     refine wp_reg ?_
     refine ol_r (r_move rfl) rfl ?_
     refine ol_r (r_move rfl) rfl ?_
     refine ol_r (r_geq rfl rfl) rfl ?_
     refine ol_nil (to_k0 (fun _ _ h => h) (hK10 _ _ _ _ _ ?_))
     clear hK10
     refine wp_condD rfl (fun hc36 => ?_) (fun hc36 => ?_)
     ·exfalso
      omega
     ·refine wp_skip' (to_k0 (fun _ _ h => h) (hK9 _ _ _ _ _ ?_))
      clear hK9
      refine wp_seq' fun K11 hK11 => ?_
      refine wp_reg ?_
      refine ol_r (r_move rfl) rfl ?_
      refine ol_r (r_move rfl) rfl ?_
      refine ol_r (r_move rfl) rfl ?_
      refine ol_call rfl rfl cb163 rfl (fun w1 hb1 hs1 hB1 => Calls.mono (bits_Div64 (S * num) den _ (by omega) (by omega)) ?_)
      rintro e w2 ⟨rfl, hb2⟩
      refine After.below rfl hb1 hs1 hB1 hb2 ?_
      clear hb2 hB1 hs1 hb1 w2 w1
      refine ol_r (r_move rfl) rfl ?_
      refine ol_r (r_extract rfl rfl) rfl ?_
      refine ol_r (r_extract rfl rfl) rfl ?_
      refine ol_r (r_assign rfl) rfl ?_
      refine ol_r (r_assign rfl) rfl ?_
      refine ol_nil (to_k0 (fun _ _ h => h) (hK11 _ _ _ _ _ ?_))
      clear hK11
      refine wp_seq' fun K12 hK12 => ?_
      refine wp_reg ?_
      refine ol_r (r_move rfl) rfl ?_
      refine ol_r (r_lss rfl rfl) rfl ?_
      refine ol_r (r_assign rfl) rfl ?_
      refine ol_nil (to_k0 (fun _ _ h => h) (hK12 _ _ _ _ _ ?_))
      clear hK12
      refine wp_seq' fun K13 hK13 => ?_
      refine wp_seq' fun K14 hK14 => ?_
      refine wp_reg ?_
      refine ol_r (r_move rfl) rfl ?_
      refine ol_r (r_move rfl) rfl ?_
      refine ol_r (r_move rfl) rfl ?_
      refine ol_r (r_move rfl) rfl ?_
      refine ol_r (r_move rfl) rfl ?_
      refine ol_call rfl rfl cb164 rfl (fun w1 hb1 hs1 hB1 => Calls.mono (ref1_moreNear _ _ _ _ _ (by omega) (by omega)) ?_)
      rintro e w2 ⟨rfl, hb2⟩
      refine After.below rfl hb1 hs1 hB1 hb2 ?_
      clear hb2 hB1 hs1 hb1 w2 w1
      refine ol_nil (to_k0 (fun _ _ h => h) (hK14 _ _ _ _ _ ?_))
      clear hK14
      refine wp_condD rfl (fun hc51 => ?_) (fun hc51 => ?_)
      ·refine wp_seq' fun K15 hK15 => ?_
       refine wp_reg ?_
       refine ol_r (r_move rfl) rfl ?_
       refine ol_r (r_addg _ rfl rfl (wrap_u64 (by omega))) rfl ?_
       refine ol_r (r_assign rfl) rfl ?_
       refine ol_nil (to_k0 (fun _ _ h => h) (hK15 _ _ _ _ _ ?_))
       clear hK15
       refine wp_seq' fun K16 hK16 => ?_
       refine wp_reg ?_
       refine ol_r (r_move rfl) rfl ?_
       refine ol_r (r_eql rfl rfl) rfl ?_
       refine ol_nil (to_k0 (fun _ _ h => h) (hK16 _ _ _ _ _ ?_))
       clear hK16
       refine wp_condD rfl (fun hc55 => ?_) (fun hc55 => ?_)
       ·exfalso
        omega
       ·refine wp_skip' (to_k0 (fun _ _ h => h) (hK13 _ _ _ _ _ ?_))
        clear hK13
        refine wp_seq' fun K17 hK17 => ?_
        refine wp_seq' fun K18 hK18 => ?_
        refine wp_reg ?_
        refine ol_r (r_move rfl) rfl ?_
        refine ol_r (r_gtr rfl rfl) rfl ?_
        refine ol_nil (to_k0 (fun _ _ h => h) (hK18 _ _ _ _ _ ?_))
        clear hK18
        refine wp_condD rfl (fun hc57 => ?_) (fun hc57 => ?_)
        ·exfalso
         omega
        ·refine wp_skip' (to_k0 (fun _ _ h => h) (hK17 _ _ _ _ _ ?_))
         clear hK17
         refine wp_seq' fun K19 hK19 => ?_
         refine wp_seq' fun K20 hK20 => ?_
         refine wp_reg ?_
         refine ol_r (r_move rfl) rfl ?_
         refine ol_nil (to_k0 (fun _ _ h => h) (hK20 _ _ _ _ _ ?_))
         clear hK20
         refine wp_condD rfl (fun hc58 => ?_) (fun hc58 => ?_)
         ·refine wp_seq' fun K21 hK21 => ?_
          refine wp_reg ?_
          refine ol_r (r_move rfl) rfl ?_
          refine ol_r (r_conv (k2 := .i64) rfl (by kernel_rfl) (by kernel_rfl) (IntWalk.i64_in _ (by omega))) rfl ?_
          refine ol_r (r_neg rfl (by omega)) rfl ?_
          refine ol_r (r_assign rfl) rfl ?_
          refine ol_r (r_assign rfl) rfl ?_
          refine ol_nil (to_k0 (fun _ _ h => h) (hK21 _ _ _ _ _ ?_))
          clear hK21
          refine hQ.ret (rvs2 (rv_t rfl) (rv_t rfl)) (fun _ _ h => h) fun w hb hs hB hkd => ?_
          first
            | exact ⟨retI (by rw [hV, if_pos hc58, nearP, if_pos hc51]), hb⟩
         ·refine wp_skip' (to_k0 (fun _ _ h => h) (hK19 _ _ _ _ _ ?_))
          clear hK19
          refine wp_seq' fun K22 hK22 => ?_
          refine wp_reg ?_
          refine ol_r (r_move rfl) rfl ?_
          refine ol_r (r_conv (k2 := .i64) rfl (by kernel_rfl) (by kernel_rfl) (IntWalk.i64_in _ (by omega))) rfl ?_
          refine ol_r (r_assign rfl) rfl ?_
          refine ol_r (r_assign rfl) rfl ?_
          refine ol_nil (to_k0 (fun _ _ h => h) (hK22 _ _ _ _ _ ?_))
          clear hK22
          refine hQ.ret (rvs2 (rv_t rfl) (rv_t rfl)) (fun _ _ h => h) fun w hb hs hB hkd => ?_
          first
            | exact ⟨retI (by rw [hV, if_neg hc58, nearP, if_pos hc51]), hb⟩
      ·refine wp_skip' (to_k0 (fun _ _ h => h) (hK13 _ _ _ _ _ ?_))
       clear hK13
       refine wp_seq' fun K23 hK23 => ?_
       refine wp_seq' fun K24 hK24 => ?_
       refine wp_reg ?_
       refine ol_r (r_move rfl) rfl ?_
       refine ol_r (r_gtr rfl rfl) rfl ?_
       refine ol_nil (to_k0 (fun _ _ h => h) (hK24 _ _ _ _ _ ?_))
       clear hK24
       refine wp_condD rfl (fun hc57 => ?_) (fun hc57 => ?_)
       ·exfalso
        omega
       ·refine wp_skip' (to_k0 (fun _ _ h => h) (hK23 _ _ _ _ _ ?_))
        clear hK23
        refine wp_seq' fun K25 hK25 => ?_
        refine wp_seq' fun K26 hK26 => ?_
        refine wp_reg ?_
        refine ol_r (r_move rfl) rfl ?_
        refine ol_nil (to_k0 (fun _ _ h => h) (hK26 _ _ _ _ _ ?_))
        clear hK26
        refine wp_condD rfl (fun hc58 => ?_) (fun hc58 => ?_)
        ·refine wp_seq' fun K27 hK27 => ?_
         refine wp_reg ?_
         refine ol_r (r_move rfl) rfl ?_
         refine ol_r (r_conv (k2 := .i64) rfl (by kernel_rfl) (by kernel_rfl) (IntWalk.i64_in _ (by omega))) rfl ?_
         refine ol_r (r_neg rfl (by omega)) rfl ?_
         refine ol_r (r_assign rfl) rfl ?_
         refine ol_r (r_assign rfl) rfl ?_
         refine ol_nil (to_k0 (fun _ _ h => h) (hK27 _ _ _ _ _ ?_))
         clear hK27
         refine hQ.ret (rvs2 (rv_t rfl) (rv_t rfl)) (fun _ _ h => h) fun w hb hs hB hkd => ?_
         first
           | exact ⟨retI (by rw [hV, if_pos hc58, nearP, if_neg hc51, Int.add_zero]), hb⟩
        ·refine wp_skip' (to_k0 (fun _ _ h => h) (hK25 _ _ _ _ _ ?_))
         clear hK25
         refine wp_seq' fun K28 hK28 => ?_
         refine wp_reg ?_
         refine ol_r (r_move rfl) rfl ?_
         refine ol_r (r_conv (k2 := .i64) rfl (by kernel_rfl) (by kernel_rfl) (IntWalk.i64_in _ (by omega))) rfl ?_
         refine ol_r (r_assign rfl) rfl ?_
         refine ol_r (r_assign rfl) rfl ?_
         refine ol_nil (to_k0 (fun _ _ h => h) (hK28 _ _ _ _ _ ?_))
         clear hK28
         refine hQ.ret (rvs2 (rv_t rfl) (rv_t rfl)) (fun _ _ h => h) fun w hb hs hB hkd => ?_
         first
           | exact ⟨retI (by rw [hV, if_neg hc58, nearP, if_neg hc51, Int.add_zero]), hb⟩
end Go.Proofs.Ytogcclagmobkiaa
