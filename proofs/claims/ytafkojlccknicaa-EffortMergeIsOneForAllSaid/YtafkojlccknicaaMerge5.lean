/-
  EffortMergeIsOneForAll.
-/
import Derived.Test.YtafkojlccknicaaMerge4
namespace Go.Proofs.Ytafkojlccknicaa
open Go Go.RowKit Hx
set_option linter.unusedVariables false
set_option linter.unusedSimpArgs false
set_option maxRecDepth 8000
theorem rd_cong {α : Type} {E : Enc α} {B : Nat} {w : World} {a : Option Addr} {n c : Nat} {xs ys : List α} (h : xs = ys) (r : Rd E B w a n c xs) : Rd E B w a n c ys := h ▸ r
theorem law_one (a : Option Addr) (n c : Nat) (xs : List BestR) (b : Option Addr) (m d : Nat) (ys : List BestR) (q : Option Addr) (l k : Nat) (zs : List BestR) (w : World) (hl : Rd encBest w.heap.size w a n c xs) (hm : Rd encBest w.heap.size w b m d ys) (hq : Rd encBest w.heap.size w q l k zs) (hn : n ≤ 4398046511104) (hn2 : m ≤ 4398046511104) (hn3 : l ≤ 4398046511104) :
    Calls Try.prog 12 #[.slice a n c, .slice b m d, .slice q l k] w fun e w' => e = .returned (.bool true) ∧ Below w.heap.size w w' := by
  refine enterQ (N := 111) (C := fun _ => True) (H := []) (B := w.heap.size) (args := [_, _, _]) Try.func12 rfl rfl rfl (Nat.le_refl _) (Sat.nil _ _) fun Q hQ => ?_
  refine wp_seq' fun K1 hK1 => ?_
  refine wp_reg ?_
  refine ol_r (r_assign rfl) rfl ?_
  refine ol_nil (to_k0 (fun _ _ h => h) (hK1 _ _ _ _ _ ?_))
  clear hK1
  refine wp_seq' fun K2 hK2 => ?_
  refine wp_reg ?_
  refine ol_r (r_move rfl) rfl ?_
  refine ol_r (r_move rfl) rfl ?_
  refine ol_call rfl rfl cb48 rfl (fun w1 hb1 hs1 hB1 => Calls.mono (eff_Merge _ _ _ _ _ _ xs ys _ (hl.at hb1 hB1) (hm.at hb1 hB1) hn hn2) ?_)
  rintro e w2 ⟨a24, n24, c24, rfl, hf24⟩
  refine After.fresh (id := 24) rfl hb1 hs1 hB1 hf24 ?_
  have hl24 := hf24.len; clear hf24 hB1 hs1 hb1 w2 w1
  refine ol_r (r_move rfl) rfl ?_
  refine ol_r (r_extract rfl rfl) rfl ?_
  refine ol_r (r_extract rfl rfl) rfl ?_
  refine ol_r (r_assign rfl) rfl ?_
  refine ol_r (r_assign rfl) rfl ?_
  refine ol_nil (to_k0 (fun _ _ h => h) (hK2 _ _ _ _ _ ?_))
  clear hK2
  refine wp_seq' fun K3 hK3 => ?_
  refine wp_reg ?_
  refine ol_r (r_move rfl) rfl ?_
  refine ol_r (r_move rfl) rfl ?_
  refine ol_call rfl rfl cb48 rfl (fun w1 hb1 hs1 hB1 => Calls.mono (eff_Merge _ _ _ _ _ _ ys zs _ (hm.at hb1 hB1) (hq.at hb1 hB1) hn2 hn3) ?_)
  rintro e w2 ⟨a30, n30, c30, rfl, hf30⟩
  refine After.fresh (id := 30) rfl hb1 hs1 hB1 hf30 ?_
  have hl30 := hf30.len; clear hf30 hB1 hs1 hb1 w2 w1
  refine ol_r (r_move rfl) rfl ?_
  refine ol_r (r_extract rfl rfl) rfl ?_
  refine ol_r (r_extract rfl rfl) rfl ?_
  refine ol_r (r_assign rfl) rfl ?_
  refine ol_r (r_assign rfl) rfl ?_
  refine ol_nil (to_k0 (fun _ _ h => h) (hK3 _ _ _ _ _ ?_))
  clear hK3
  refine wp_seq' fun K4 hK4 => ?_
  refine wp_seq' fun K5 hK5 => ?_
  refine wp_reg ?_
  refine ol_r (r_move rfl) rfl ?_
  refine ol_r (r_neq rfl rfl) rfl ?_
  refine ol_r (r_move rfl) rfl ?_
  refine ol_split (d := 35) rfl (fun hs35 => ?_) (fun hs35 => ?_)
  ·have phs35 := hs35; try simp only [decide_eq_true_eq, decide_eq_false_iff_not, Bool.not_eq_true', Bool.not_eq_false', Bool.not_true, Bool.not_false] at phs35
   refine ol_s rfl rfl hs35 rfl ?_
   refine ol_s rfl rfl hs35 rfl ?_
   refine ol_r (r_pickT rfl hs35 rfl) rfl ?_
   refine ol_nil (to_k0 (fun _ _ h => h) (hK5 _ _ _ _ _ ?_))
   clear hK5
   refine wp_condT rfl ?_
   refine wp_seq' fun K6 hK6 => ?_
   refine wp_reg ?_
   refine ol_r (r_move rfl) rfl ?_
   refine ol_r (r_move rfl) rfl ?_
   refine ol_call rfl rfl cb49 rfl (fun w1 hb1 hs1 hB1 => Calls.mono (ref4_Merge _ _ _ _ _ _ xs ys _ (hl.at hb1 hB1) (hm.at hb1 hB1) hn hn2) ?_)
   rintro e w2 ⟨a42, n42, c42, rfl, hf42⟩
   refine After.fresh (id := 42) rfl hb1 hs1 hB1 hf42 ?_
   have hl42 := hf42.len; clear hf42 hB1 hs1 hb1 w2 w1
   refine ol_r (r_move rfl) rfl ?_
   refine ol_r (r_extract rfl rfl) rfl ?_
   refine ol_r (r_extract rfl rfl) rfl ?_
   refine ol_r (r_assign rfl) rfl ?_
   refine ol_r (r_assign rfl) rfl ?_
   refine ol_nil (to_k0 (fun _ _ h => h) (hK6 _ _ _ _ _ ?_))
   clear hK6
   refine wp_seq' fun K7 hK7 => ?_
   refine wp_reg ?_
   refine ol_r (r_move rfl) rfl ?_
   refine ol_r (r_move rfl) rfl ?_
   refine ol_r (r_eql rfl rfl) rfl ?_
   refine ol_r (r_move rfl) rfl ?_
   refine ol_split (d := 48) rfl (fun hs48 => ?_) (fun hs48 => ?_)
   ·have phs48 := hs48; try simp only [decide_eq_true_eq, decide_eq_false_iff_not, Bool.not_eq_true', Bool.not_eq_false', Bool.not_true, Bool.not_false] at phs48
    refine ol_g rfl rfl hs48 ?_
    refine ol_call rfl rfl cb16 rfl (fun w1 hb1 hs1 hB1 => Calls.mono (effort_told _) ?_)
    rintro e w2 ⟨rfl, hb2⟩
    refine After.below rfl hb1 hs1 hB1 hb2 ?_
    clear hb2 hB1 hs1 hb1 w2 w1
    refine ol_r (r_pickT rfl hs48 rfl) rfl ?_
    refine ol_r (r_assign rfl) rfl ?_
    refine ol_nil (to_k0 (fun _ _ h => h) (hK7 _ _ _ _ _ ?_))
    clear hK7
    refine hQ.ret (rvs1 (rv_t rfl)) (fun _ _ h => h) fun w hb hs hB hkd => ?_
    first
      | exact ⟨rfl, hb⟩
      | (exfalso; simp at hs48; done)
      | (exfalso; rw [huv] at hs72; simp at hs72; done)
      | (exfalso; simp at hs90; done)
      | (exfalso; rw [g4] at hs94; simp at hs94; done)
      | (exfalso; simp at hs99; done)
      | (exfalso; rw [g5] at hs103; simp at hs103; done)
      | (exfalso; rw [hn84] at hs108; simp at hs108; done)
   ·have phs48 := hs48; try simp only [decide_eq_true_eq, decide_eq_false_iff_not, Bool.not_eq_true', Bool.not_eq_false', Bool.not_true, Bool.not_false] at phs48
    refine ol_s rfl rfl hs48 rfl ?_
    refine ol_r (r_pickF rfl hs48 rfl) rfl ?_
    refine ol_r (r_assign rfl) rfl ?_
    refine ol_nil (to_k0 (fun _ _ h => h) (hK7 _ _ _ _ _ ?_))
    clear hK7
    refine hQ.ret (rvs1 (rv_t rfl)) (fun _ _ h => h) fun w hb hs hB hkd => ?_
    first
      | exact ⟨rfl, hb⟩
      | (exfalso; simp at hs48; done)
      | (exfalso; rw [huv] at hs72; simp at hs72; done)
      | (exfalso; simp at hs90; done)
      | (exfalso; rw [g4] at hs94; simp at hs94; done)
      | (exfalso; simp at hs99; done)
      | (exfalso; rw [g5] at hs103; simp at hs103; done)
      | (exfalso; rw [hn84] at hs108; simp at hs108; done)
  ·have phs35 := hs35; try simp only [decide_eq_true_eq, decide_eq_false_iff_not, Bool.not_eq_true', Bool.not_eq_false', Bool.not_true, Bool.not_false] at phs35
   refine ol_g rfl rfl hs35 ?_
   refine ol_r (r_move rfl) rfl ?_
   refine ol_g rfl rfl hs35 ?_
   refine ol_r (r_neq rfl rfl) rfl ?_
   refine ol_r (r_pickF rfl hs35 rfl) rfl ?_
   refine ol_nil (to_k0 (fun _ _ h => h) (hK5 _ _ _ _ _ ?_))
   clear hK5
   first | refine wp_condD rfl (fun hc38 => ?_) (fun hc38 => ?_) | refine wp_condN rfl (fun hc38 => ?_) (fun hc38 => ?_) | refine wp_condNB rfl (fun hc38 => ?_) (fun hc38 => ?_) | refine wp_cond' rfl (fun hc38 => ?_) (fun hc38 => ?_)
   ·refine wp_seq' fun K8 hK8 => ?_
    refine wp_reg ?_
    refine ol_r (r_move rfl) rfl ?_
    refine ol_r (r_move rfl) rfl ?_
    refine ol_call rfl rfl cb49 rfl (fun w1 hb1 hs1 hB1 => Calls.mono (ref4_Merge _ _ _ _ _ _ xs ys _ (hl.at hb1 hB1) (hm.at hb1 hB1) hn hn2) ?_)
    rintro e w2 ⟨a42, n42, c42, rfl, hf42⟩
    refine After.fresh (id := 42) rfl hb1 hs1 hB1 hf42 ?_
    have hl42 := hf42.len; clear hf42 hB1 hs1 hb1 w2 w1
    refine ol_r (r_move rfl) rfl ?_
    refine ol_r (r_extract rfl rfl) rfl ?_
    refine ol_r (r_extract rfl rfl) rfl ?_
    refine ol_r (r_assign rfl) rfl ?_
    refine ol_r (r_assign rfl) rfl ?_
    refine ol_nil (to_k0 (fun _ _ h => h) (hK8 _ _ _ _ _ ?_))
    clear hK8
    refine wp_seq' fun K9 hK9 => ?_
    refine wp_reg ?_
    refine ol_r (r_move rfl) rfl ?_
    refine ol_r (r_move rfl) rfl ?_
    refine ol_r (r_eql rfl rfl) rfl ?_
    refine ol_r (r_move rfl) rfl ?_
    refine ol_split (d := 48) rfl (fun hs48 => ?_) (fun hs48 => ?_)
    ·have phs48 := hs48; try simp only [decide_eq_true_eq, decide_eq_false_iff_not, Bool.not_eq_true', Bool.not_eq_false', Bool.not_true, Bool.not_false] at phs48
     refine ol_g rfl rfl hs48 ?_
     refine ol_call rfl rfl cb16 rfl (fun w1 hb1 hs1 hB1 => Calls.mono (effort_told _) ?_)
     rintro e w2 ⟨rfl, hb2⟩
     refine After.below rfl hb1 hs1 hB1 hb2 ?_
     clear hb2 hB1 hs1 hb1 w2 w1
     refine ol_r (r_pickT rfl hs48 rfl) rfl ?_
     refine ol_r (r_assign rfl) rfl ?_
     refine ol_nil (to_k0 (fun _ _ h => h) (hK9 _ _ _ _ _ ?_))
     clear hK9
     refine hQ.ret (rvs1 (rv_t rfl)) (fun _ _ h => h) fun w hb hs hB hkd => ?_
     first
       | exact ⟨rfl, hb⟩
       | (exfalso; simp at hs48; done)
       | (exfalso; rw [huv] at hs72; simp at hs72; done)
       | (exfalso; simp at hs90; done)
       | (exfalso; rw [g4] at hs94; simp at hs94; done)
       | (exfalso; simp at hs99; done)
       | (exfalso; rw [g5] at hs103; simp at hs103; done)
       | (exfalso; rw [hn84] at hs108; simp at hs108; done)
    ·have phs48 := hs48; try simp only [decide_eq_true_eq, decide_eq_false_iff_not, Bool.not_eq_true', Bool.not_eq_false', Bool.not_true, Bool.not_false] at phs48
     refine ol_s rfl rfl hs48 rfl ?_
     refine ol_r (r_pickF rfl hs48 rfl) rfl ?_
     refine ol_r (r_assign rfl) rfl ?_
     refine ol_nil (to_k0 (fun _ _ h => h) (hK9 _ _ _ _ _ ?_))
     clear hK9
     refine hQ.ret (rvs1 (rv_t rfl)) (fun _ _ h => h) fun w hb hs hB hkd => ?_
     first
       | exact ⟨rfl, hb⟩
       | (exfalso; simp at hs48; done)
       | (exfalso; rw [huv] at hs72; simp at hs72; done)
       | (exfalso; simp at hs90; done)
       | (exfalso; rw [g4] at hs94; simp at hs94; done)
       | (exfalso; simp at hs99; done)
       | (exfalso; rw [g5] at hs103; simp at hs103; done)
       | (exfalso; rw [hn84] at hs108; simp at hs108; done)
   ·refine wp_skip' (to_k0 (fun _ _ h => h) (hK4 _ _ _ _ _ ?_))
    clear hK4
    refine wp_seq' fun K10 hK10 => ?_
    refine wp_reg ?_
    have g1 : (mergeV xs ys).2 = 0 := by first | omega | (simp_all; done)
    have g2 : (mergeV ys zs).2 = 0 := by first | omega | (simp_all; done)
    obtain ⟨hX, hY, hxy, e1⟩ := mergeV_ok g1
    obtain ⟨_, hZ, hyz, e2⟩ := mergeV_ok g2
    have hl1 : (mergeV xs ys).1.length ≤ 100 := by rw [e1]; exact hxy
    have hl2 : (mergeV ys zs).1.length ≤ 100 := by rw [e2]; exact hyz
    have huv : mergeV (mergeV xs ys).1 zs = mergeV xs (mergeV ys zs).1 := by
      rw [e1, e2]
      show mergeV (mgR xs ys) zs = mergeV xs (mgR ys zs)
      rw [mergeV_of (mgR_ok hX hY hxy) hZ, mergeV_of hX (mgR_ok hY hZ hyz), mgR_assoc hX.up hY.up hZ.up]
    refine ol_r (r_move rfl) rfl ?_
    refine ol_r (r_move rfl) rfl ?_
    refine ol_call rfl rfl cb48 rfl (fun w1 hb1 hs1 hB1 => Calls.mono (eff_Merge _ _ _ _ _ _ (mergeV xs ys).1 zs _ (Sat.rd hs1 (id := 24) rfl rfl) (hq.at hb1 hB1) (by omega) hn3) ?_)
    rintro e w2 ⟨a54, n54, c54, rfl, hf54⟩
    refine After.fresh (id := 54) rfl hb1 hs1 hB1 hf54 ?_
    have hl54 := hf54.len; clear hf54 hB1 hs1 hb1 w2 w1
    refine ol_r (r_move rfl) rfl ?_
    refine ol_r (r_extract rfl rfl) rfl ?_
    refine ol_r (r_extract rfl rfl) rfl ?_
    refine ol_r (r_assign rfl) rfl ?_
    refine ol_r (r_assign rfl) rfl ?_
    refine ol_nil (to_k0 (fun _ _ h => h) (hK10 _ _ _ _ _ ?_))
    clear hK10
    refine wp_seq' fun K11 hK11 => ?_
    refine wp_reg ?_
    refine ol_r (r_move rfl) rfl ?_
    refine ol_r (r_move rfl) rfl ?_
    refine ol_call rfl rfl cb48 rfl (fun w1 hb1 hs1 hB1 => Calls.mono (eff_Merge _ _ _ _ _ _ xs (mergeV ys zs).1 _ (hl.at hb1 hB1) (Sat.rd hs1 (id := 30) rfl rfl) hn (by omega)) ?_)
    rintro e w2 ⟨a60, n60, c60, rfl, hf60⟩
    refine After.fresh (id := 60) rfl hb1 hs1 hB1 hf60 ?_
    have hl60 := hf60.len; clear hf60 hB1 hs1 hb1 w2 w1
    refine ol_r (r_move rfl) rfl ?_
    refine ol_r (r_extract rfl rfl) rfl ?_
    refine ol_r (r_extract rfl rfl) rfl ?_
    refine ol_r (r_assign rfl) rfl ?_
    refine ol_r (r_assign rfl) rfl ?_
    refine ol_nil (to_k0 (fun _ _ h => h) (hK11 _ _ _ _ _ ?_))
    clear hK11
    refine wp_seq' fun K12 hK12 => ?_
    refine wp_seq' fun K13 hK13 => ?_
    refine wp_reg ?_
    refine ol_r (r_move rfl) rfl ?_
    refine ol_r (r_neq rfl rfl) rfl ?_
    refine ol_r (r_move rfl) rfl ?_
    refine ol_split (d := 65) rfl (fun hs65 => ?_) (fun hs65 => ?_)
    ·have phs65 := hs65; try simp only [decide_eq_true_eq, decide_eq_false_iff_not, Bool.not_eq_true', Bool.not_eq_false', Bool.not_true, Bool.not_false] at phs65
     refine ol_s rfl rfl hs65 rfl ?_
     refine ol_s rfl rfl hs65 rfl ?_
     refine ol_r (r_pickT rfl hs65 rfl) rfl ?_
     refine ol_nil (to_k0 (fun _ _ h => h) (hK13 _ _ _ _ _ ?_))
     clear hK13
     refine wp_condT rfl ?_
     refine wp_seq' fun K14 hK14 => ?_
     refine wp_reg ?_
     refine ol_r (r_move rfl) rfl ?_
     refine ol_r (r_move rfl) rfl ?_
     refine ol_r (r_eql rfl rfl) rfl ?_
     refine ol_r (r_move rfl) rfl ?_
     refine ol_split (d := 72) rfl (fun hs72 => ?_) (fun hs72 => ?_)
     ·have phs72 := hs72; try simp only [decide_eq_true_eq, decide_eq_false_iff_not, Bool.not_eq_true', Bool.not_eq_false', Bool.not_true, Bool.not_false] at phs72
      refine ol_g rfl rfl hs72 ?_
      refine ol_call rfl rfl cb16 rfl (fun w1 hb1 hs1 hB1 => Calls.mono (effort_told _) ?_)
      rintro e w2 ⟨rfl, hb2⟩
      refine After.below rfl hb1 hs1 hB1 hb2 ?_
      clear hb2 hB1 hs1 hb1 w2 w1
      refine ol_r (r_pickT rfl hs72 rfl) rfl ?_
      refine ol_r (r_assign rfl) rfl ?_
      refine ol_nil (to_k0 (fun _ _ h => h) (hK14 _ _ _ _ _ ?_))
      clear hK14
      refine hQ.ret (rvs1 (rv_t rfl)) (fun _ _ h => h) fun w hb hs hB hkd => ?_
      first
        | exact ⟨rfl, hb⟩
        | (exfalso; simp at hs48; done)
        | (exfalso; rw [huv] at hs72; simp at hs72; done)
        | (exfalso; simp at hs90; done)
        | (exfalso; rw [g4] at hs94; simp at hs94; done)
        | (exfalso; simp at hs99; done)
        | (exfalso; rw [g5] at hs103; simp at hs103; done)
        | (exfalso; rw [hn84] at hs108; simp at hs108; done)
     ·have phs72 := hs72; try simp only [decide_eq_true_eq, decide_eq_false_iff_not, Bool.not_eq_true', Bool.not_eq_false', Bool.not_true, Bool.not_false] at phs72
      refine ol_s rfl rfl hs72 rfl ?_
      refine ol_r (r_pickF rfl hs72 rfl) rfl ?_
      refine ol_r (r_assign rfl) rfl ?_
      refine ol_nil (to_k0 (fun _ _ h => h) (hK14 _ _ _ _ _ ?_))
      clear hK14
      refine hQ.ret (rvs1 (rv_t rfl)) (fun _ _ h => h) fun w hb hs hB hkd => ?_
      first
        | exact ⟨rfl, hb⟩
        | (exfalso; simp at hs48; done)
        | (exfalso; rw [huv] at hs72; simp at hs72; done)
        | (exfalso; simp at hs90; done)
        | (exfalso; rw [g4] at hs94; simp at hs94; done)
        | (exfalso; simp at hs99; done)
        | (exfalso; rw [g5] at hs103; simp at hs103; done)
        | (exfalso; rw [hn84] at hs108; simp at hs108; done)
    ·have phs65 := hs65; try simp only [decide_eq_true_eq, decide_eq_false_iff_not, Bool.not_eq_true', Bool.not_eq_false', Bool.not_true, Bool.not_false] at phs65
     refine ol_g rfl rfl hs65 ?_
     refine ol_r (r_move rfl) rfl ?_
     refine ol_g rfl rfl hs65 ?_
     refine ol_r (r_neq rfl rfl) rfl ?_
     refine ol_r (r_pickF rfl hs65 rfl) rfl ?_
     refine ol_nil (to_k0 (fun _ _ h => h) (hK13 _ _ _ _ _ ?_))
     clear hK13
     first | refine wp_condD rfl (fun hc68 => ?_) (fun hc68 => ?_) | refine wp_condN rfl (fun hc68 => ?_) (fun hc68 => ?_) | refine wp_condNB rfl (fun hc68 => ?_) (fun hc68 => ?_) | refine wp_cond' rfl (fun hc68 => ?_) (fun hc68 => ?_)
     ·refine wp_seq' fun K15 hK15 => ?_
      refine wp_reg ?_
      refine ol_r (r_move rfl) rfl ?_
      refine ol_r (r_move rfl) rfl ?_
      refine ol_r (r_eql rfl rfl) rfl ?_
      refine ol_r (r_move rfl) rfl ?_
      refine ol_split (d := 72) rfl (fun hs72 => ?_) (fun hs72 => ?_)
      ·have phs72 := hs72; try simp only [decide_eq_true_eq, decide_eq_false_iff_not, Bool.not_eq_true', Bool.not_eq_false', Bool.not_true, Bool.not_false] at phs72
       refine ol_g rfl rfl hs72 ?_
       refine ol_call rfl rfl cb16 rfl (fun w1 hb1 hs1 hB1 => Calls.mono (effort_told _) ?_)
       rintro e w2 ⟨rfl, hb2⟩
       refine After.below rfl hb1 hs1 hB1 hb2 ?_
       clear hb2 hB1 hs1 hb1 w2 w1
       refine ol_r (r_pickT rfl hs72 rfl) rfl ?_
       refine ol_r (r_assign rfl) rfl ?_
       refine ol_nil (to_k0 (fun _ _ h => h) (hK15 _ _ _ _ _ ?_))
       clear hK15
       refine hQ.ret (rvs1 (rv_t rfl)) (fun _ _ h => h) fun w hb hs hB hkd => ?_
       first
         | exact ⟨rfl, hb⟩
         | (exfalso; simp at hs48; done)
         | (exfalso; rw [huv] at hs72; simp at hs72; done)
         | (exfalso; simp at hs90; done)
         | (exfalso; rw [g4] at hs94; simp at hs94; done)
         | (exfalso; simp at hs99; done)
         | (exfalso; rw [g5] at hs103; simp at hs103; done)
         | (exfalso; rw [hn84] at hs108; simp at hs108; done)
      ·have phs72 := hs72; try simp only [decide_eq_true_eq, decide_eq_false_iff_not, Bool.not_eq_true', Bool.not_eq_false', Bool.not_true, Bool.not_false] at phs72
       refine ol_s rfl rfl hs72 rfl ?_
       refine ol_r (r_pickF rfl hs72 rfl) rfl ?_
       refine ol_r (r_assign rfl) rfl ?_
       refine ol_nil (to_k0 (fun _ _ h => h) (hK15 _ _ _ _ _ ?_))
       clear hK15
       refine hQ.ret (rvs1 (rv_t rfl)) (fun _ _ h => h) fun w hb hs hB hkd => ?_
       first
         | exact ⟨rfl, hb⟩
         | (exfalso; simp at hs48; done)
         | (exfalso; rw [huv] at hs72; simp at hs72; done)
         | (exfalso; simp at hs90; done)
         | (exfalso; rw [g4] at hs94; simp at hs94; done)
         | (exfalso; simp at hs99; done)
         | (exfalso; rw [g5] at hs103; simp at hs103; done)
         | (exfalso; rw [hn84] at hs108; simp at hs108; done)
     ·refine wp_skip' (to_k0 (fun _ _ h => h) (hK12 _ _ _ _ _ ?_))
      clear hK12
      refine wp_seq' fun K16 hK16 => ?_
      refine wp_reg ?_
      have g3 : (mergeV (mergeV xs ys).1 zs).2 = 0 := by first | omega | (simp_all; done)
      obtain ⟨hU1, _, hul, e3⟩ := mergeV_ok g3
      have hU : CurveOk (mergeV (mergeV xs ys).1 zs).1 := by rw [e3]; exact mgR_ok hU1 hZ hul
      have hl3 := hU.len
      have e4 : mergeV (mergeV (mergeV xs ys).1 zs).1 (mergeV (mergeV xs ys).1 zs).1 = ((mergeV (mergeV xs ys).1 zs).1, 0) := by
        rw [mergeV_of hU hU, mgR_self hU.up, if_neg (by omega)]
      have e4' : (mergeV (mergeV (mergeV xs ys).1 zs).1 (mergeV (mergeV xs ys).1 zs).1).1 = (mergeV (mergeV xs ys).1 zs).1 := by rw [e4]
      have e5 : beatsV ys (mergeV (mergeV xs ys).1 zs).1 = ([], 0) := by
        rw [beatsV_of hY hU]
        have e6 : (mergeV (mergeV xs ys).1 zs).1 = mgR (mgR xs ys) zs := by rw [e3, e1]
        rw [e6, bts_none hX.up hY.up hZ.up]
      refine ol_r (r_move rfl) rfl ?_
      refine ol_r (r_move rfl) rfl ?_
      refine ol_call rfl rfl cb48 rfl (fun w1 hb1 hs1 hB1 => Calls.mono (eff_Merge _ _ _ _ _ _ (mergeV (mergeV xs ys).1 zs).1 (mergeV (mergeV xs ys).1 zs).1 _ (Sat.rd hs1 (id := 54) rfl rfl) (Sat.rd hs1 (id := 54) rfl rfl) (by omega) (by omega)) ?_)
      rintro e w2 ⟨a78, n78, c78, rfl, hf78⟩
      refine After.fresh (id := 78) rfl hb1 hs1 hB1 hf78 ?_
      have hl78 := hf78.len; clear hf78 hB1 hs1 hb1 w2 w1
      refine ol_r (r_move rfl) rfl ?_
      refine ol_r (r_extract rfl rfl) rfl ?_
      refine ol_r (r_extract rfl rfl) rfl ?_
      refine ol_r (r_assign rfl) rfl ?_
      refine ol_r (r_assign rfl) rfl ?_
      refine ol_nil (to_k0 (fun _ _ h => h) (hK16 _ _ _ _ _ ?_))
      clear hK16
      refine wp_seq' fun K17 hK17 => ?_
      refine wp_reg ?_
      refine ol_r (r_move rfl) rfl ?_
      refine ol_r (r_move rfl) rfl ?_
      refine ol_call rfl rfl cb50 rfl (fun w1 hb1 hs1 hB1 => Calls.mono (eff_Beats _ _ _ _ _ _ ys (mergeV (mergeV xs ys).1 zs).1 _ (hm.at hb1 hB1) (Sat.rd hs1 (id := 54) rfl rfl) hn2 (by omega)) ?_)
      rintro e w2 ⟨a84, n84, c84, rfl, hf84⟩
      refine After.fresh (id := 84) rfl hb1 hs1 hB1 hf84 ?_
      have hl84 := hf84.len; clear hf84 hB1 hs1 hb1 w2 w1
      refine ol_r (r_move rfl) rfl ?_
      refine ol_r (r_extract rfl rfl) rfl ?_
      refine ol_r (r_extract rfl rfl) rfl ?_
      refine ol_r (r_assign rfl) rfl ?_
      refine ol_r (r_assign rfl) rfl ?_
      refine ol_nil (to_k0 (fun _ _ h => h) (hK17 _ _ _ _ _ ?_))
      clear hK17
      refine wp_seq' fun K18 hK18 => ?_
      refine wp_reg ?_
      have hn84 : n84 = 0 := by rw [← hl84, e5]; rfl
      have g4 : (mergeV (mergeV (mergeV xs ys).1 zs).1 (mergeV (mergeV xs ys).1 zs).1).2 = 0 := by rw [e4]
      have g5 : (beatsV ys (mergeV (mergeV xs ys).1 zs).1).2 = 0 := by rw [e5]
      refine ol_r (r_move rfl) rfl ?_
      refine ol_r (r_move rfl) rfl ?_
      refine ol_call rfl rfl cb35 rfl (fun w1 hb1 hs1 hB1 => Calls.mono (equal_curves _ _ _ _ _ _ _ _ (rd_cong (congrArg Prod.fst huv) (Sat.rd hs1 (E := encBest) (id := 54) rfl rfl)) (Sat.rd hs1 (id := 60) rfl rfl)) ?_)
      rintro e w2 ⟨rfl, hb2⟩
      refine After.below rfl hb1 hs1 hB1 hb2 ?_
      clear hb2 hB1 hs1 hb1 w2 w1
      refine ol_r (r_move rfl) rfl ?_
      refine ol_split (d := 90) rfl (fun hs90 => ?_) (fun hs90 => ?_)
      ·have phs90 := hs90; try simp only [decide_eq_true_eq, decide_eq_false_iff_not, Bool.not_eq_true', Bool.not_eq_false', Bool.not_true, Bool.not_false] at phs90
       refine ol_g rfl rfl hs90 ?_
       refine ol_r (r_move rfl) rfl ?_
       refine ol_g rfl rfl hs90 ?_
       refine ol_r (r_eql rfl rfl) rfl ?_
       refine ol_r (r_pickT rfl hs90 rfl) rfl ?_
       refine ol_r (r_move rfl) rfl ?_
       refine ol_split (d := 94) rfl (fun hs94 => ?_) (fun hs94 => ?_)
       ·have phs94 := hs94; try simp only [decide_eq_true_eq, decide_eq_false_iff_not, Bool.not_eq_true', Bool.not_eq_false', Bool.not_true, Bool.not_false] at phs94
        refine ol_g rfl rfl hs94 ?_
        refine ol_r (r_move rfl) rfl ?_
        refine ol_g rfl rfl hs94 ?_
        refine ol_r (r_move rfl) rfl ?_
        refine ol_g rfl rfl hs94 ?_
        refine ol_call rfl rfl cb35 rfl (fun w1 hb1 hs1 hB1 => Calls.mono (equal_curves _ _ _ _ _ _ _ _ (Sat.rd hs1 (E := encBest) (id := 54) rfl rfl) (rd_cong e4' (Sat.rd hs1 (E := encBest) (id := 78) rfl rfl))) ?_)
        rintro e w2 ⟨rfl, hb2⟩
        refine After.below rfl hb1 hs1 hB1 hb2 ?_
        clear hb2 hB1 hs1 hb1 w2 w1
        refine ol_r (r_pickT rfl hs94 rfl) rfl ?_
        refine ol_r (r_move rfl) rfl ?_
        refine ol_split (d := 99) rfl (fun hs99 => ?_) (fun hs99 => ?_)
        ·have phs99 := hs99; try simp only [decide_eq_true_eq, decide_eq_false_iff_not, Bool.not_eq_true', Bool.not_eq_false', Bool.not_true, Bool.not_false] at phs99
         refine ol_g rfl rfl hs99 ?_
         refine ol_r (r_move rfl) rfl ?_
         refine ol_g rfl rfl hs99 ?_
         refine ol_r (r_eql rfl rfl) rfl ?_
         refine ol_r (r_pickT rfl hs99 rfl) rfl ?_
         refine ol_r (r_move rfl) rfl ?_
         refine ol_split (d := 103) rfl (fun hs103 => ?_) (fun hs103 => ?_)
         ·have phs103 := hs103; try simp only [decide_eq_true_eq, decide_eq_false_iff_not, Bool.not_eq_true', Bool.not_eq_false', Bool.not_true, Bool.not_false] at phs103
          refine ol_g rfl rfl hs103 ?_
          refine ol_r (r_move rfl) rfl ?_
          refine ol_g rfl rfl hs103 ?_
          refine ol_r (r_len rfl sl22) rfl ?_
          refine ol_g rfl rfl hs103 ?_
          refine ol_r (r_eql rfl rfl) rfl ?_
          refine ol_r (r_pickT rfl hs103 rfl) rfl ?_
          refine ol_r (r_move rfl) rfl ?_
          refine ol_split (d := 108) rfl (fun hs108 => ?_) (fun hs108 => ?_)
          ·have phs108 := hs108; try simp only [decide_eq_true_eq, decide_eq_false_iff_not, Bool.not_eq_true', Bool.not_eq_false', Bool.not_true, Bool.not_false] at phs108
           refine ol_g rfl rfl hs108 ?_
           refine ol_call rfl rfl cb16 rfl (fun w1 hb1 hs1 hB1 => Calls.mono (effort_told _) ?_)
           rintro e w2 ⟨rfl, hb2⟩
           refine After.below rfl hb1 hs1 hB1 hb2 ?_
           clear hb2 hB1 hs1 hb1 w2 w1
           refine ol_r (r_pickT rfl hs108 rfl) rfl ?_
           refine ol_r (r_assign rfl) rfl ?_
           refine ol_nil (to_k0 (fun _ _ h => h) (hK18 _ _ _ _ _ ?_))
           clear hK18
           refine hQ.ret (rvs1 (rv_t rfl)) (fun _ _ h => h) fun w hb hs hB hkd => ?_
           first
             | exact ⟨rfl, hb⟩
             | (exfalso; simp at hs48; done)
             | (exfalso; rw [huv] at hs72; simp at hs72; done)
             | (exfalso; simp at hs90; done)
             | (exfalso; rw [g4] at hs94; simp at hs94; done)
             | (exfalso; simp at hs99; done)
             | (exfalso; rw [g5] at hs103; simp at hs103; done)
             | (exfalso; rw [hn84] at hs108; simp at hs108; done)
          ·have phs108 := hs108; try simp only [decide_eq_true_eq, decide_eq_false_iff_not, Bool.not_eq_true', Bool.not_eq_false', Bool.not_true, Bool.not_false] at phs108
           refine ol_s rfl rfl hs108 rfl ?_
           refine ol_r (r_pickF rfl hs108 rfl) rfl ?_
           refine ol_r (r_assign rfl) rfl ?_
           refine ol_nil (to_k0 (fun _ _ h => h) (hK18 _ _ _ _ _ ?_))
           clear hK18
           refine hQ.ret (rvs1 (rv_t rfl)) (fun _ _ h => h) fun w hb hs hB hkd => ?_
           first
             | exact ⟨rfl, hb⟩
             | (exfalso; simp at hs48; done)
             | (exfalso; rw [huv] at hs72; simp at hs72; done)
             | (exfalso; simp at hs90; done)
             | (exfalso; rw [g4] at hs94; simp at hs94; done)
             | (exfalso; simp at hs99; done)
             | (exfalso; rw [g5] at hs103; simp at hs103; done)
             | (exfalso; rw [hn84] at hs108; simp at hs108; done)
         ·have phs103 := hs103; try simp only [decide_eq_true_eq, decide_eq_false_iff_not, Bool.not_eq_true', Bool.not_eq_false', Bool.not_true, Bool.not_false] at phs103
          refine ol_s rfl rfl hs103 rfl ?_
          refine ol_s rfl rfl hs103 rfl ?_
          refine ol_s rfl rfl hs103 rfl ?_
          refine ol_r (r_pickF rfl hs103 rfl) rfl ?_
          refine ol_r (r_move rfl) rfl ?_
          refine ol_s rfl rfl rfl rfl ?_
          refine ol_r (r_pickF rfl rfl rfl) rfl ?_
          refine ol_r (r_assign rfl) rfl ?_
          refine ol_nil (to_k0 (fun _ _ h => h) (hK18 _ _ _ _ _ ?_))
          clear hK18
          refine hQ.ret (rvs1 (rv_t rfl)) (fun _ _ h => h) fun w hb hs hB hkd => ?_
          first
            | exact ⟨rfl, hb⟩
            | (exfalso; simp at hs48; done)
            | (exfalso; rw [huv] at hs72; simp at hs72; done)
            | (exfalso; simp at hs90; done)
            | (exfalso; rw [g4] at hs94; simp at hs94; done)
            | (exfalso; simp at hs99; done)
            | (exfalso; rw [g5] at hs103; simp at hs103; done)
            | (exfalso; rw [hn84] at hs108; simp at hs108; done)
        ·have phs99 := hs99; try simp only [decide_eq_true_eq, decide_eq_false_iff_not, Bool.not_eq_true', Bool.not_eq_false', Bool.not_true, Bool.not_false] at phs99
         refine ol_s rfl rfl hs99 rfl ?_
         refine ol_s rfl rfl hs99 rfl ?_
         refine ol_r (r_pickF rfl hs99 rfl) rfl ?_
         refine ol_r (r_move rfl) rfl ?_
         refine ol_s rfl rfl rfl rfl ?_
         refine ol_s rfl rfl rfl rfl ?_
         refine ol_s rfl rfl rfl rfl ?_
         refine ol_r (r_pickF rfl rfl rfl) rfl ?_
         refine ol_r (r_move rfl) rfl ?_
         refine ol_s rfl rfl rfl rfl ?_
         refine ol_r (r_pickF rfl rfl rfl) rfl ?_
         refine ol_r (r_assign rfl) rfl ?_
         refine ol_nil (to_k0 (fun _ _ h => h) (hK18 _ _ _ _ _ ?_))
         clear hK18
         refine hQ.ret (rvs1 (rv_t rfl)) (fun _ _ h => h) fun w hb hs hB hkd => ?_
         first
           | exact ⟨rfl, hb⟩
           | (exfalso; simp at hs48; done)
           | (exfalso; rw [huv] at hs72; simp at hs72; done)
           | (exfalso; simp at hs90; done)
           | (exfalso; rw [g4] at hs94; simp at hs94; done)
           | (exfalso; simp at hs99; done)
           | (exfalso; rw [g5] at hs103; simp at hs103; done)
           | (exfalso; rw [hn84] at hs108; simp at hs108; done)
       ·have phs94 := hs94; try simp only [decide_eq_true_eq, decide_eq_false_iff_not, Bool.not_eq_true', Bool.not_eq_false', Bool.not_true, Bool.not_false] at phs94
        refine ol_s rfl rfl hs94 rfl ?_
        refine ol_s rfl rfl hs94 rfl ?_
        refine ol_s rfl rfl hs94 rfl ?_
        refine ol_r (r_pickF rfl hs94 rfl) rfl ?_
        refine ol_r (r_move rfl) rfl ?_
        refine ol_s rfl rfl rfl rfl ?_
        refine ol_s rfl rfl rfl rfl ?_
        refine ol_r (r_pickF rfl rfl rfl) rfl ?_
        refine ol_r (r_move rfl) rfl ?_
        refine ol_s rfl rfl rfl rfl ?_
        refine ol_s rfl rfl rfl rfl ?_
        refine ol_s rfl rfl rfl rfl ?_
        refine ol_r (r_pickF rfl rfl rfl) rfl ?_
        refine ol_r (r_move rfl) rfl ?_
        refine ol_s rfl rfl rfl rfl ?_
        refine ol_r (r_pickF rfl rfl rfl) rfl ?_
        refine ol_r (r_assign rfl) rfl ?_
        refine ol_nil (to_k0 (fun _ _ h => h) (hK18 _ _ _ _ _ ?_))
        clear hK18
        refine hQ.ret (rvs1 (rv_t rfl)) (fun _ _ h => h) fun w hb hs hB hkd => ?_
        first
          | exact ⟨rfl, hb⟩
          | (exfalso; simp at hs48; done)
          | (exfalso; rw [huv] at hs72; simp at hs72; done)
          | (exfalso; simp at hs90; done)
          | (exfalso; rw [g4] at hs94; simp at hs94; done)
          | (exfalso; simp at hs99; done)
          | (exfalso; rw [g5] at hs103; simp at hs103; done)
          | (exfalso; rw [hn84] at hs108; simp at hs108; done)
      ·have phs90 := hs90; try simp only [decide_eq_true_eq, decide_eq_false_iff_not, Bool.not_eq_true', Bool.not_eq_false', Bool.not_true, Bool.not_false] at phs90
       refine ol_s rfl rfl hs90 rfl ?_
       refine ol_s rfl rfl hs90 rfl ?_
       refine ol_r (r_pickF rfl hs90 rfl) rfl ?_
       refine ol_r (r_move rfl) rfl ?_
       refine ol_s rfl rfl rfl rfl ?_
       refine ol_s rfl rfl rfl rfl ?_
       refine ol_s rfl rfl rfl rfl ?_
       refine ol_r (r_pickF rfl rfl rfl) rfl ?_
       refine ol_r (r_move rfl) rfl ?_
       refine ol_s rfl rfl rfl rfl ?_
       refine ol_s rfl rfl rfl rfl ?_
       refine ol_r (r_pickF rfl rfl rfl) rfl ?_
       refine ol_r (r_move rfl) rfl ?_
       refine ol_s rfl rfl rfl rfl ?_
       refine ol_s rfl rfl rfl rfl ?_
       refine ol_s rfl rfl rfl rfl ?_
       refine ol_r (r_pickF rfl rfl rfl) rfl ?_
       refine ol_r (r_move rfl) rfl ?_
       refine ol_s rfl rfl rfl rfl ?_
       refine ol_r (r_pickF rfl rfl rfl) rfl ?_
       refine ol_r (r_assign rfl) rfl ?_
       refine ol_nil (to_k0 (fun _ _ h => h) (hK18 _ _ _ _ _ ?_))
       clear hK18
       refine hQ.ret (rvs1 (rv_t rfl)) (fun _ _ h => h) fun w hb hs hB hkd => ?_
       first
         | exact ⟨rfl, hb⟩
         | (exfalso; simp at hs48; done)
         | (exfalso; rw [huv] at hs72; simp at hs72; done)
         | (exfalso; simp at hs90; done)
         | (exfalso; rw [g4] at hs94; simp at hs94; done)
         | (exfalso; simp at hs99; done)
         | (exfalso; rw [g5] at hs103; simp at hs103; done)
         | (exfalso; rw [hn84] at hs108; simp at hs108; done)
end Go.Proofs.Ytafkojlccknicaa
