/-
  Streams: CheckStream, and the reference's running sums.
-/
import Derived.Test.YtafkojlccknicaaSlices
import Derived.Test.YtafkojlccknicaaBestM
import Derived.Test.YtafkojlccknicaaHx3
namespace Go.Proofs.Ytafkojlccknicaa
open Go Go.RowKit Hx
set_option linter.unusedVariables false
set_option linter.unusedSimpArgs false
set_option maxRecDepth 8000

theorem effort_in (n a b : Int) (w : World) : Calls Try.prog 69 #[.int .i64 n, .int .i64 a, .int .i64 b] w fun e w' => e = .returned (.bool (inB n a b)) ∧ Below w.heap.size w w' := by
  refine enterQ (N := 15) (C := fun _ => True) (H := []) (B := w.heap.size) (args := [_, _, _]) Try.func69 rfl rfl rfl (Nat.le_refl _) (Sat.nil _ _) fun Q hQ => ?_
  refine wp_seq' fun K1 hK1 => ?_
  refine wp_reg ?_
  refine ol_r (r_assign rfl) rfl ?_
  refine ol_nil (to_k0 (fun _ _ h => h) (hK1 _ _ _ _ _ ?_))
  clear hK1
  refine wp_seq' fun K2 hK2 => ?_
  refine wp_reg ?_
  refine ol_r (r_move rfl) rfl ?_
  refine ol_r (r_move rfl) rfl ?_
  refine ol_r (r_geq rfl rfl) rfl ?_
  refine ol_r (r_move rfl) rfl ?_
  refine ol_split (d := 10) rfl (fun hs10 => ?_) (fun hs10 => ?_)
  ·have phs10 := hs10; try simp only [decide_eq_true_eq, decide_eq_false_iff_not, Bool.not_eq_true', Bool.not_eq_false', Bool.not_true, Bool.not_false] at phs10
   refine ol_g rfl rfl hs10 ?_
   refine ol_r (r_move rfl) rfl ?_
   refine ol_g rfl rfl hs10 ?_
   refine ol_r (r_move rfl) rfl ?_
   refine ol_g rfl rfl hs10 ?_
   refine ol_r (r_leq rfl rfl) rfl ?_
   refine ol_r (r_pickT rfl hs10 rfl) rfl ?_
   refine ol_r (r_assign rfl) rfl ?_
   refine ol_nil (to_k0 (fun _ _ h => h) (hK2 _ _ _ _ _ ?_))
   clear hK2
   refine hQ.ret (rvs1 (rv_t rfl)) (fun _ _ h => h) fun w hb hs hB hkd => ?_
   exact ⟨by simp [inB, hs10], hb⟩
  ·have phs10 := hs10; try simp only [decide_eq_true_eq, decide_eq_false_iff_not, Bool.not_eq_true', Bool.not_eq_false', Bool.not_true, Bool.not_false] at phs10
   refine ol_s rfl rfl hs10 rfl ?_
   refine ol_s rfl rfl hs10 rfl ?_
   refine ol_s rfl rfl hs10 rfl ?_
   refine ol_r (r_pickF rfl hs10 rfl) rfl ?_
   refine ol_r (r_assign rfl) rfl ?_
   refine ol_nil (to_k0 (fun _ _ h => h) (hK2 _ _ _ _ _ ?_))
   clear hK2
   refine hQ.ret (rvs1 (rv_t rfl)) (fun _ _ h => h) fun w hb hs hB hkd => ?_
   exact ⟨by simp [inB, hs10], hb⟩
theorem effort_CheckStream (a : Option Addr) (n cap : Nat) (xs : List Int) (w : World) (hl : Rd encI w.heap.size w a n cap xs) :
    Calls Try.prog 20 #[.slice a n cap] w fun e w' => e = .returned (.int .i64 (streamR xs)) ∧ Below w.heap.size w w' := by
  have hn := hl.len
  have hfit := hl.fit
  subst hn
  refine enterQ (N := 18) (C := fun _ => True) (H := []) (B := w.heap.size) (args := [_]) Try.func20 rfl rfl rfl (Nat.le_refl _) (Sat.nil _ _) fun Q hQ => ?_
  refine wp_seq' fun K1 hK1 => ?_
  refine wp_reg ?_
  refine ol_r (r_assign rfl) rfl ?_
  refine ol_nil (to_k0 (fun _ _ h => h) (hK1 _ _ _ _ _ ?_))
  clear hK1
  refine wp_seq' fun K2 hK2 => ?_
  refine wp_seq' fun K3 hK3 => ?_
  refine wp_reg ?_
  refine ol_r (r_move rfl) rfl ?_
  refine ol_r (r_len rfl sl22) rfl ?_
  refine ol_r (r_gtr rfl rfl) rfl ?_
  refine ol_nil (to_k0 (fun _ _ h => h) (hK3 _ _ _ _ _ ?_))
  clear hK3
  first | refine wp_condD rfl (fun hc7 => ?_) (fun hc7 => ?_) | refine wp_condN rfl (fun hc7 => ?_) (fun hc7 => ?_) | refine wp_condNB rfl (fun hc7 => ?_) (fun hc7 => ?_) | refine wp_cond' rfl (fun hc7 => ?_) (fun hc7 => ?_)
  ·refine wp_seq' fun K4 hK4 => ?_
   refine wp_reg ?_
   refine ol_r (r_assign rfl) rfl ?_
   refine ol_nil (to_k0 (fun _ _ h => h) (hK4 _ _ _ _ _ ?_))
   clear hK4
   refine hQ.ret (rvs1 (rv_t rfl)) (fun _ _ h => h) fun w hb hs hB hkd => ?_
   first
     | (refine ⟨by rw [streamR_big (by omega)], hb⟩; done)
     | (refine ⟨by rw [streamR_bad (by omega) (all_false hx12 (by simpa using hc16))], hb⟩; done)
     | (rw [List.take_of_length_le (by omega)] at hP; refine ⟨by rw [streamR_good (by omega) hP], hb⟩; done)
  ·refine wp_skip' (to_k0 (fun _ _ h => h) (hK2 _ _ _ _ _ ?_))
   clear hK2
   refine wp_seq' fun K5 hK5 => ?_
   refine wp_seq' fun K6 hK6 => ?_
   refine wp_reg ?_
   refine ol_r (r_move rfl) rfl ?_
   refine ol_r (r_len rfl sl22) rfl ?_
   refine ol_r (r_move rfl) rfl ?_
   refine ol_nil (to_k0 (fun _ _ h => h) (hK6 _ _ _ _ _ ?_))
   clear hK6
   refine wp_block' ?_
   apply wp_loopM (σ := Nat) (fun s => s ≤ xs.length ∧ (xs.take s).all (inB · (-1) 1000000000) = true) (fun s => [(10, .int .i64 s)]) [(8, _), (9, _)] (fun s => []) [] (fun s => xs.length - s) (0)
   ·try dsimp only
    exact ⟨by omega, by simp⟩
   ·exact (sub_cons rfl sub_nil)
   ·exact (sub_cons rfl (sub_cons rfl sub_nil))
   ·exact subH_nil
   ·exact subH_nil
   ·rintro k ⟨hk, hP⟩
    intro K7 hK7
    refine wp_seq' fun K8 hK8 => ?_
    refine wp_reg ?_
    refine ol_r (r_lss rfl rfl) rfl ?_
    refine ol_nil (to_k0 (fun _ _ h => h) (hK8 _ _ _ _ _ ?_))
    clear hK8
    refine wp_seq' fun K9 hK9 => ?_
    first | refine wp_condD rfl (fun hc11 => ?_) (fun hc11 => ?_) | refine wp_condN rfl (fun hc11 => ?_) (fun hc11 => ?_) | refine wp_condNB rfl (fun hc11 => ?_) (fun hc11 => ?_) | refine wp_cond' rfl (fun hc11 => ?_) (fun hc11 => ?_)
    ·refine wp_skip' (to_k0 (fun _ _ h => h) (hK9 _ _ _ _ _ ?_))
     clear hK9
     refine wp_seq' fun K10 hK10 => ?_
     refine wp_block' ?_
     refine wp_seq' fun K11 hK11 => ?_
     refine wp_reg ?_
     refine ol_ixr hl rfl rfl sl22 (by omega) rfl fun x12 hx12 => ?_
     try simp only [Int.toNat_natCast] at hx12
     refine ol_r (r_ldw rfl (fun w1 hb1 hs1 hB1 => show Loads _ _ _ _ (.int .i64 x12) from Rd.loads hl ty3 hx12 hb1)) rfl ?_
     refine ol_r (r_assign rfl) rfl ?_
     refine ol_nil (to_k0 (fun _ _ h => h) (hK11 _ _ _ _ _ ?_))
     clear hK11
     refine wp_seq' fun K12 hK12 => ?_
     refine wp_reg ?_
     refine ol_r (r_move rfl) rfl ?_
     refine ol_call rfl rfl cb69 rfl (fun w1 hb1 hs1 hB1 => Calls.mono (effort_in _ _ _ _) ?_)
     rintro e w2 ⟨rfl, hb2⟩
     refine After.below rfl hb1 hs1 hB1 hb2 ?_
     clear hb2 hB1 hs1 hb1 w2 w1
     refine ol_r (r_not rfl) rfl ?_
     refine ol_nil (to_k0 (fun _ _ h => h) (hK12 _ _ _ _ _ ?_))
     clear hK12
     first | refine wp_condD rfl (fun hc16 => ?_) (fun hc16 => ?_) | refine wp_condN rfl (fun hc16 => ?_) (fun hc16 => ?_) | refine wp_condNB rfl (fun hc16 => ?_) (fun hc16 => ?_) | refine wp_cond' rfl (fun hc16 => ?_) (fun hc16 => ?_)
     ·refine wp_seq' fun K13 hK13 => ?_
      refine wp_reg ?_
      refine ol_r (r_assign rfl) rfl ?_
      refine ol_nil (to_k0 (fun _ _ h => h) (hK13 _ _ _ _ _ ?_))
      clear hK13
      refine hQ.ret (rvs1 (rv_t rfl)) (fun _ _ h => h) fun w hb hs hB hkd => ?_
      first
        | (refine ⟨by rw [streamR_big (by omega)], hb⟩; done)
        | (refine ⟨by rw [streamR_bad (by omega) (all_false hx12 (by simpa using hc16))], hb⟩; done)
        | (rw [List.take_of_length_le (by omega)] at hP; refine ⟨by rw [streamR_good (by omega) hP], hb⟩; done)
     ·refine wp_skip' (to_k0 (fun _ _ h => h) (hK10 _ _ _ _ _ ?_))
      clear hK10
      refine wp_reg ?_
      refine ol_r (r_add rfl rfl (by omega)) rfl ?_
      refine ol_r (r_move rfl) rfl ?_
      refine ol_nil (to_k0 (fun _ _ h => h) (hK7 (k + 1) _ _ ?_ ?_ (sub_cons rfl sub_nil) (sub_cons rfl (sub_cons rfl sub_nil)) (by exact subH_nil) subH_nil))
      ·try dsimp only
       exact ⟨by omega, all_take_succ hx12 hP (by simpa using hc16)⟩
      ·try dsimp only
       omega
    ·refine wp_exit' (to_k0 (fun _ _ h => h) (hK5 _ _ _ _ _ ?_))
     clear hK5
     refine wp_seq' fun K14 hK14 => ?_
     refine wp_reg ?_
     refine ol_r (r_assign rfl) rfl ?_
     refine ol_nil (to_k0 (fun _ _ h => h) (hK14 _ _ _ _ _ ?_))
     clear hK14
     refine hQ.ret (rvs1 (rv_t rfl)) (fun _ _ h => h) fun w hb hs hB hkd => ?_
     first
       | (refine ⟨by rw [streamR_big (by omega)], hb⟩; done)
       | (refine ⟨by rw [streamR_bad (by omega) (all_false hx12 (by simpa using hc16))], hb⟩; done)
       | (rw [List.take_of_length_le (by omega)] at hP; refine ⟨by rw [streamR_good (by omega) hP], hb⟩; done)
theorem ref_CheckStream (a : Option Addr) (n cap : Nat) (xs : List Int) (w : World) (hl : Rd encI w.heap.size w a n cap xs) :
    Calls Try.prog 21 #[.slice a n cap] w fun e w' => e = .returned (.int .i64 (streamR xs)) ∧ Below w.heap.size w w' := by
  have hn := hl.len
  have hfit := hl.fit
  subst hn
  refine enterQ (N := 21) (C := fun _ => True) (H := []) (B := w.heap.size) (args := [_]) Try.func21 rfl rfl rfl (Nat.le_refl _) (Sat.nil _ _) fun Q hQ => ?_
  refine wp_seq' fun K1 hK1 => ?_
  refine wp_reg ?_
  refine ol_r (r_assign rfl) rfl ?_
  refine ol_nil (to_k0 (fun _ _ h => h) (hK1 _ _ _ _ _ ?_))
  clear hK1
  refine wp_seq' fun K2 hK2 => ?_
  refine wp_seq' fun K3 hK3 => ?_
  refine wp_reg ?_
  refine ol_r (r_move rfl) rfl ?_
  refine ol_r (r_len rfl sl22) rfl ?_
  refine ol_r (r_gtr rfl rfl) rfl ?_
  refine ol_nil (to_k0 (fun _ _ h => h) (hK3 _ _ _ _ _ ?_))
  clear hK3
  first | refine wp_condD rfl (fun hc7 => ?_) (fun hc7 => ?_) | refine wp_condN rfl (fun hc7 => ?_) (fun hc7 => ?_) | refine wp_condNB rfl (fun hc7 => ?_) (fun hc7 => ?_) | refine wp_cond' rfl (fun hc7 => ?_) (fun hc7 => ?_)
  ·refine wp_seq' fun K4 hK4 => ?_
   refine wp_reg ?_
   refine ol_r (r_assign rfl) rfl ?_
   refine ol_nil (to_k0 (fun _ _ h => h) (hK4 _ _ _ _ _ ?_))
   clear hK4
   refine hQ.ret (rvs1 (rv_t rfl)) (fun _ _ h => h) fun w hb hs hB hkd => ?_
   first
     | (refine ⟨by rw [streamR_big (by omega)], hb⟩; done)
     | (refine ⟨by rw [streamR_bad (by omega) (all_false hx12 (inB_not.2 (by omega)))], hb⟩; done)
     | (rw [List.take_of_length_le (by omega)] at hP; refine ⟨by rw [streamR_good (by omega) hP], hb⟩; done)
  ·refine wp_skip' (to_k0 (fun _ _ h => h) (hK2 _ _ _ _ _ ?_))
   clear hK2
   refine wp_seq' fun K5 hK5 => ?_
   refine wp_seq' fun K6 hK6 => ?_
   refine wp_reg ?_
   refine ol_r (r_move rfl) rfl ?_
   refine ol_r (r_len rfl sl22) rfl ?_
   refine ol_r (r_move rfl) rfl ?_
   refine ol_nil (to_k0 (fun _ _ h => h) (hK6 _ _ _ _ _ ?_))
   clear hK6
   refine wp_block' ?_
   apply wp_loopM (σ := Nat) (fun s => s ≤ xs.length ∧ (xs.take s).all (inB · (-1) 1000000000) = true) (fun s => [(10, .int .i64 s)]) [(8, _), (9, _)] (fun s => []) [] (fun s => xs.length - s) (0)
   ·try dsimp only
    exact ⟨by omega, by simp⟩
   ·exact (sub_cons rfl sub_nil)
   ·exact (sub_cons rfl (sub_cons rfl sub_nil))
   ·exact subH_nil
   ·exact subH_nil
   ·rintro k ⟨hk, hP⟩
    intro K7 hK7
    refine wp_seq' fun K8 hK8 => ?_
    refine wp_reg ?_
    refine ol_r (r_lss rfl rfl) rfl ?_
    refine ol_nil (to_k0 (fun _ _ h => h) (hK8 _ _ _ _ _ ?_))
    clear hK8
    refine wp_seq' fun K9 hK9 => ?_
    first | refine wp_condD rfl (fun hc11 => ?_) (fun hc11 => ?_) | refine wp_condN rfl (fun hc11 => ?_) (fun hc11 => ?_) | refine wp_condNB rfl (fun hc11 => ?_) (fun hc11 => ?_) | refine wp_cond' rfl (fun hc11 => ?_) (fun hc11 => ?_)
    ·refine wp_skip' (to_k0 (fun _ _ h => h) (hK9 _ _ _ _ _ ?_))
     clear hK9
     refine wp_seq' fun K10 hK10 => ?_
     refine wp_block' ?_
     refine wp_seq' fun K11 hK11 => ?_
     refine wp_reg ?_
     refine ol_ixr hl rfl rfl sl22 (by omega) rfl fun x12 hx12 => ?_
     try simp only [Int.toNat_natCast] at hx12
     refine ol_r (r_ldw rfl (fun w1 hb1 hs1 hB1 => show Loads _ _ _ _ (.int .i64 x12) from Rd.loads hl ty3 hx12 hb1)) rfl ?_
     refine ol_r (r_assign rfl) rfl ?_
     refine ol_nil (to_k0 (fun _ _ h => h) (hK11 _ _ _ _ _ ?_))
     clear hK11
     refine wp_seq' fun K12 hK12 => ?_
     refine wp_reg ?_
     refine ol_r (r_move rfl) rfl ?_
     refine ol_r (r_lss rfl rfl) rfl ?_
     refine ol_r (r_move rfl) rfl ?_
     refine ol_split (d := 16) rfl (fun hs16 => ?_) (fun hs16 => ?_)
     ·have phs16 := hs16; try simp only [decide_eq_true_eq, decide_eq_false_iff_not, Bool.not_eq_true', Bool.not_eq_false', Bool.not_true, Bool.not_false] at phs16
      refine ol_s rfl rfl hs16 rfl ?_
      refine ol_s rfl rfl hs16 rfl ?_
      refine ol_r (r_pickT rfl hs16 rfl) rfl ?_
      refine ol_nil (to_k0 (fun _ _ h => h) (hK12 _ _ _ _ _ ?_))
      clear hK12
      refine wp_condT rfl ?_
      refine wp_seq' fun K13 hK13 => ?_
      refine wp_reg ?_
      refine ol_r (r_assign rfl) rfl ?_
      refine ol_nil (to_k0 (fun _ _ h => h) (hK13 _ _ _ _ _ ?_))
      clear hK13
      refine hQ.ret (rvs1 (rv_t rfl)) (fun _ _ h => h) fun w hb hs hB hkd => ?_
      first
        | (refine ⟨by rw [streamR_big (by omega)], hb⟩; done)
        | (refine ⟨by rw [streamR_bad (by omega) (all_false hx12 (inB_not.2 (by omega)))], hb⟩; done)
        | (rw [List.take_of_length_le (by omega)] at hP; refine ⟨by rw [streamR_good (by omega) hP], hb⟩; done)
     ·have phs16 := hs16; try simp only [decide_eq_true_eq, decide_eq_false_iff_not, Bool.not_eq_true', Bool.not_eq_false', Bool.not_true, Bool.not_false] at phs16
      refine ol_g rfl rfl hs16 ?_
      refine ol_r (r_move rfl) rfl ?_
      refine ol_g rfl rfl hs16 ?_
      refine ol_r (r_gtr rfl rfl) rfl ?_
      refine ol_r (r_pickF rfl hs16 rfl) rfl ?_
      refine ol_nil (to_k0 (fun _ _ h => h) (hK12 _ _ _ _ _ ?_))
      clear hK12
      first | refine wp_condD rfl (fun hc19 => ?_) (fun hc19 => ?_) | refine wp_condN rfl (fun hc19 => ?_) (fun hc19 => ?_) | refine wp_condNB rfl (fun hc19 => ?_) (fun hc19 => ?_) | refine wp_cond' rfl (fun hc19 => ?_) (fun hc19 => ?_)
      ·refine wp_seq' fun K14 hK14 => ?_
       refine wp_reg ?_
       refine ol_r (r_assign rfl) rfl ?_
       refine ol_nil (to_k0 (fun _ _ h => h) (hK14 _ _ _ _ _ ?_))
       clear hK14
       refine hQ.ret (rvs1 (rv_t rfl)) (fun _ _ h => h) fun w hb hs hB hkd => ?_
       first
         | (refine ⟨by rw [streamR_big (by omega)], hb⟩; done)
         | (refine ⟨by rw [streamR_bad (by omega) (all_false hx12 (inB_not.2 (by omega)))], hb⟩; done)
         | (rw [List.take_of_length_le (by omega)] at hP; refine ⟨by rw [streamR_good (by omega) hP], hb⟩; done)
      ·refine wp_skip' (to_k0 (fun _ _ h => h) (hK10 _ _ _ _ _ ?_))
       clear hK10
       refine wp_reg ?_
       refine ol_r (r_add rfl rfl (by omega)) rfl ?_
       refine ol_r (r_move rfl) rfl ?_
       refine ol_nil (to_k0 (fun _ _ h => h) (hK7 (k + 1) _ _ ?_ ?_ (sub_cons rfl sub_nil) (sub_cons rfl (sub_cons rfl sub_nil)) (by exact subH_nil) subH_nil))
       ·try dsimp only
        exact ⟨by omega, all_take_succ hx12 hP (inB_iff.2 (by omega))⟩
       ·try dsimp only
        omega
    ·refine wp_exit' (to_k0 (fun _ _ h => h) (hK5 _ _ _ _ _ ?_))
     clear hK5
     refine wp_seq' fun K15 hK15 => ?_
     refine wp_reg ?_
     refine ol_r (r_assign rfl) rfl ?_
     refine ol_nil (to_k0 (fun _ _ h => h) (hK15 _ _ _ _ _ ?_))
     clear hK15
     refine hQ.ret (rvs1 (rv_t rfl)) (fun _ _ h => h) fun w hb hs hB hkd => ?_
     first
       | (refine ⟨by rw [streamR_big (by omega)], hb⟩; done)
       | (refine ⟨by rw [streamR_bad (by omega) (all_false hx12 (inB_not.2 (by omega)))], hb⟩; done)
       | (rw [List.take_of_length_le (by omega)] at hP; refine ⟨by rw [streamR_good (by omega) hP], hb⟩; done)

/-! #### the reference: running sums -/
def runS (xs : List Int) (k : Nat) : List Int := (List.range (k + 1)).map (pS xs)
def runU (xs : List Int) (k : Nat) : List Int := (List.range (k + 1)).map (pU xs)
theorem runS_succ (xs : List Int) (k : Nat) : runS xs (k + 1) = runS xs k ++ [pS xs (k + 1)] := by unfold runS; rw [List.range_succ, List.map_append]; rfl
theorem runU_succ (xs : List Int) (k : Nat) : runU xs (k + 1) = runU xs k ++ [pU xs (k + 1)] := by unfold runU; rw [List.range_succ, List.map_append]; rfl
theorem runS_get {xs : List Int} {k i : Nat} {x : Int} (h : (runS xs k)[i]? = some x) : x = pS xs i := by
  unfold runS at h
  obtain ⟨hi, rfl⟩ := List.getElem?_eq_some_iff.1 h
  simp
theorem runU_get {xs : List Int} {k i : Nat} {x : Int} (h : (runU xs k)[i]? = some x) : x = pU xs i := by
  unfold runU at h
  obtain ⟨hi, rfl⟩ := List.getElem?_eq_some_iff.1 h
  simp
theorem ref_sumsOf (a : Option Addr) (n cap : Nat) (xs : List Int) (w : World) (hl : Rd encI w.heap.size w a n cap xs) (hx : streamR xs = 0) :
    Calls Try.prog 72 #[.slice a n cap] w fun e w' => ∃ a1 c1 a2 c2, e = .returned (.agg #[.slice a1 (n + 1) c1, .slice a2 (n + 1) c2]) ∧ Below w.heap.size w w' ∧
      Sat w.heap.size w' [(1001, .row a1 (n + 1) c1 (encI.enc (runS xs n)) 3 1), (1002, .row a2 (n + 1) c2 (encI.enc (runU xs n)) 3 1)] := by
  have hn := hl.len
  have hfit := hl.fit
  subst hn
  have hok := streamR_ok hx
  refine enterQ (N := 38) (C := fun _ => True) (H := []) (B := w.heap.size) (args := [_]) Try.func72 rfl rfl rfl (Nat.le_refl _) (Sat.nil _ _) fun Q hQ => ?_
  refine wp_seq' fun K1 hK1 => ?_
  refine wp_reg ?_
  refine ol_alloc 2 z99 rfl fun b2 => ?_
  refine ol_nil (to_k0 (fun _ _ h => h) (hK1 _ _ _ _ _ ?_))
  clear hK1
  refine wp_seq' fun K2 hK2 => ?_
  refine wp_reg ?_
  refine ol_bs1 8 rfl rfl rw22 rfl rfl rfl fun a8 => ?_
  refine ol_bs1 9 rfl rfl rw22 rfl rfl rfl fun a9 => ?_
  refine ol_r (r_build rfl (fun _ => bd99_0_1 _ _ _ _ _ _ _)) rfl ?_
  refine ol_alloc 3 z99 rfl fun b3 => ?_
  refine ol_store (id := 3) rfl rfl rfl rfl sz99 rfl rfl (by first | decide | exact Nat.zero_lt_succ _ | simp) ?_
  refine ol_nil (to_k0 (fun _ _ h => h) (hK2 _ _ _ _ _ ?_))
  clear hK2
  refine wp_seq' fun K3 hK3 => ?_
  refine wp_reg ?_
  refine ol_r (r_assign rfl) rfl ?_
  refine ol_r (r_assign rfl) rfl ?_
  refine ol_nil (to_k0 (fun _ _ h => h) (hK3 _ _ _ _ _ ?_))
  clear hK3
  refine wp_seq' fun K4 hK4 => ?_
  refine wp_seq' fun K5 hK5 => ?_
  refine wp_reg ?_
  refine ol_r (r_move rfl) rfl ?_
  refine ol_r (r_len rfl sl22) rfl ?_
  refine ol_r (r_move rfl) rfl ?_
  refine ol_nil (to_k0 (fun _ _ h => h) (hK5 _ _ _ _ _ ?_))
  clear hK5
  refine wp_block' ?_
  apply wp_loopM (σ := Nat × Int × Int × Option Addr × Nat × Option Addr × Nat) (fun s => s.1 ≤ xs.length ∧ s.2.1 = pS xs s.1 ∧ s.2.2.1 = pU xs s.1) (fun s => [(13, .int .i64 s.1), (4, .int .i64 s.2.1), (5, .int .i64 s.2.2.1)]) [(2, _), (3, _), (11, _), (12, _)] (fun s => [(3, .blk b3 [(0, .slice s.2.2.2.1 (s.1 + 1) s.2.2.2.2.1), (1, .slice s.2.2.2.2.2.1 (s.1 + 1) s.2.2.2.2.2.2)] 99), (8, .row s.2.2.2.1 (s.1 + 1) s.2.2.2.2.1 (encI.enc (runS xs s.1)) 3 1), (9, .row s.2.2.2.2.2.1 (s.1 + 1) s.2.2.2.2.2.2 (encI.enc (runU xs s.1)) 3 1)]) [(2, _)] (fun s => xs.length - s.1) ((0, 0, 0, _, _, _, _))
  ·try dsimp only
   exact ⟨Nat.zero_le _, (pS_zero _).symm, (pU_zero _).symm⟩
  ·exact (sub_cons rfl (sub_cons rfl (sub_cons rfl sub_nil)))
  ·exact (sub_cons rfl (sub_cons rfl (sub_cons rfl (sub_cons rfl sub_nil))))
  ·exact (subH_blk rfl (sub_cons rfl (sub_cons rfl sub_nil)) (subH_row rfl (by first | (dsimp only; rfl; done) | (rfl; done) | (dsimp only; done)) (subH_row rfl (by first | (dsimp only; rfl; done) | (rfl; done) | (dsimp only; done)) subH_nil)))
  ·exact (subH_same rfl subH_nil)
  ·rintro ⟨k, v, u, oa, oc, ua, uc⟩ ⟨hk, hv, hu⟩
   dsimp only at hk hv hu ⊢
   intro K6 hK6
   refine wp_seq' fun K7 hK7 => ?_
   refine wp_reg ?_
   refine ol_r (r_lss rfl rfl) rfl ?_
   refine ol_nil (to_k0 (fun _ _ h => h) (hK7 _ _ _ _ _ ?_))
   clear hK7
   refine wp_seq' fun K8 hK8 => ?_
   first | refine wp_condD rfl (fun hc14 => ?_) (fun hc14 => ?_) | refine wp_condN rfl (fun hc14 => ?_) (fun hc14 => ?_) | refine wp_condNB rfl (fun hc14 => ?_) (fun hc14 => ?_) | refine wp_cond' rfl (fun hc14 => ?_) (fun hc14 => ?_)
   ·refine wp_skip' (to_k0 (fun _ _ h => h) (hK8 _ _ _ _ _ ?_))
    clear hK8
    refine wp_seq' fun K9 hK9 => ?_
    refine wp_block' ?_
    refine wp_seq' fun K10 hK10 => ?_
    refine wp_reg ?_
    refine ol_ixr hl rfl rfl sl22 (by omega) rfl fun x15 hx15 => ?_
    try simp only [Int.toNat_natCast] at hx15
    refine ol_r (r_ldw rfl (fun w1 hb1 hs1 hB1 => show Loads _ _ _ _ (.int .i64 x15) from Rd.loads hl ty3 hx15 hb1)) rfl ?_
    refine ol_r (r_assign rfl) rfl ?_
    refine ol_nil (to_k0 (fun _ _ h => h) (hK10 _ _ _ _ _ ?_))
    clear hK10
    refine wp_seq' fun K11 hK11 => ?_
    refine wp_seq' fun K12 hK12 => ?_
    refine wp_reg ?_
    refine ol_r (r_move rfl) rfl ?_
    have q1 := pS_bd hok.1 hok.2 k
    have q3 := pU_bd hok.1 k (xs := xs)
    have qx := hok.2 _ (List.mem_of_getElem? hx15)
    refine ol_r (r_lss rfl rfl) rfl ?_
    refine ol_nil (to_k0 (fun _ _ h => h) (hK12 _ _ _ _ _ ?_))
    clear hK12
    first | refine wp_condD rfl (fun hc18 => ?_) (fun hc18 => ?_) | refine wp_condN rfl (fun hc18 => ?_) (fun hc18 => ?_) | refine wp_condNB rfl (fun hc18 => ?_) (fun hc18 => ?_) | refine wp_cond' rfl (fun hc18 => ?_) (fun hc18 => ?_)
    ·refine wp_reg ?_
     refine ol_r (r_move rfl) rfl ?_
     refine ol_r (r_add rfl rfl (by omega)) rfl ?_
     refine ol_r (r_assign rfl) rfl ?_
     refine ol_nil (to_k0 (fun _ _ h => h) (hK11 _ _ _ _ _ ?_))
     clear hK11
     refine wp_rega [(999, [(2, _)]), (11, [(3, _)]), (4, [(8, _)]), (9, [(9, _)])] (by kernel_rfl) ⟨.inr (subH_same rfl subH_nil), ⟨.inr (subH_same rfl subH_nil), ⟨.inr (subH_same rfl subH_nil), ⟨.inr (subH_same rfl subH_nil), trivial⟩⟩⟩⟩ ?_
     refine aq_r 0 999 rfl (by kernel_rfl) (by kernel_rfl) (by kernel_rfl) (.head _) (by kernel_rfl) (by kernel_rfl) rfl (r_fa (o' := 0) rfl fl99_0 rfl) ?_
     refine aq_r 1 11 rfl (by kernel_rfl) (by kernel_rfl) (by kernel_rfl) (.tail _ (.head _)) (by kernel_rfl) (by kernel_rfl) rfl (r_ld (id := 3) rfl rfl rfl sc22) ?_
     refine aq_r 2 999 rfl (by kernel_rfl) (by kernel_rfl) (by kernel_rfl) (.head _) (by kernel_rfl) (by kernel_rfl) rfl (r_move rfl) ?_
     refine aq_r 5 999 rfl (by kernel_rfl) (by kernel_rfl) (by kernel_rfl) (.head _) (by kernel_rfl) (by kernel_rfl) rfl (r_fa (o' := 1) rfl fl99_1 rfl) ?_
     refine aq_r 6 11 rfl (by kernel_rfl) (by kernel_rfl) (by kernel_rfl) (.tail _ (.head _)) (by kernel_rfl) (by kernel_rfl) rfl (r_ld (id := 3) rfl rfl rfl sc22) ?_
     refine aq_r 7 999 rfl (by kernel_rfl) (by kernel_rfl) (by kernel_rfl) (.head _) (by kernel_rfl) (by kernel_rfl) rfl (r_move rfl) ?_
     refine aq_two (i := 3) (j := 8) (by kernel_rfl) rfl rfl (fun K13 hK13 => ?_) (fun K13 hK13 => ?_)
     ·refine ol_bs1 27 rfl rfl rw22 rfl rfl rfl fun a27 => ?_
      refine ol_nil (to_k0 (fun _ _ h => h) (hK13 _ _ ⟨.inr (by repeat' first | exact subH_nil | refine subH_same rfl ?_ | (refine subH_blk rfl (by repeat' first | exact sub_nil | refine sub_cons rfl ?_) ?_)), ⟨.inr (by repeat' first | exact subH_nil | refine subH_same rfl ?_ | (refine subH_blk rfl (by repeat' first | exact sub_nil | refine sub_cons rfl ?_) ?_)), ⟨.inr (by repeat' first | exact subH_nil | refine subH_same rfl ?_ | (refine subH_blk rfl (by repeat' first | exact sub_nil | refine sub_cons rfl ?_) ?_)), ⟨.inr (by repeat' first | exact subH_nil | refine subH_same rfl ?_ | (refine subH_blk rfl (by repeat' first | exact sub_nil | refine sub_cons rfl ?_) ?_)), trivial⟩⟩⟩⟩ ?_))
      clear hK13
      refine aq_two (i := 4) (j := 8) (by kernel_rfl) rfl rfl (fun K14 hK14 => ?_) (fun K14 hK14 => ?_)
      ·refine ol_append1 (id := 8) (id2 := 27) rfl rfl rfl rfl rfl rw22 (by omega) rfl fun a28 c28 => ?_
       refine ol_nil (to_k0 (fun _ _ h => h) (hK14 _ _ ⟨.inr (by repeat' first | exact subH_nil | refine subH_same rfl ?_ | (refine subH_blk rfl (by repeat' first | exact sub_nil | refine sub_cons rfl ?_) ?_)), ⟨.inr (by repeat' first | exact subH_nil | refine subH_same rfl ?_ | (refine subH_blk rfl (by repeat' first | exact sub_nil | refine sub_cons rfl ?_) ?_)), ⟨.inl (by kernel_rfl), ⟨.inr (by repeat' first | exact subH_nil | refine subH_same rfl ?_ | (refine subH_blk rfl (by repeat' first | exact sub_nil | refine sub_cons rfl ?_) ?_)), trivial⟩⟩⟩⟩ ?_))
       clear hK14
       refine aq_r 10 999 rfl (by kernel_rfl) (by kernel_rfl) (by kernel_rfl) (.head _) (by kernel_rfl) (by kernel_rfl) rfl (r_fa (o' := 0) rfl fl99_0 rfl) ?_
       refine aq_one (i := 8) (by kernel_rfl) rfl fun K15 hK15 => ?_
       refine ol_bs1 32 rfl rfl rw22 rfl rfl rfl fun a32 => ?_
       refine ol_nil (to_k0 (fun _ _ h => h) (hK15 _ _ ⟨.inr (by repeat' first | exact subH_nil | refine subH_same rfl ?_ | (refine subH_blk rfl (by repeat' first | exact sub_nil | refine sub_cons rfl ?_) ?_)), ⟨.inr (by repeat' first | exact subH_nil | refine subH_same rfl ?_ | (refine subH_blk rfl (by repeat' first | exact sub_nil | refine sub_cons rfl ?_) ?_)), ⟨.inl (by kernel_rfl), ⟨.inr (by repeat' first | exact subH_nil | refine subH_same rfl ?_ | (refine subH_blk rfl (by repeat' first | exact sub_nil | refine sub_cons rfl ?_) ?_)), trivial⟩⟩⟩⟩ ?_))
       clear hK15
       refine aq_one (i := 9) (by kernel_rfl) rfl fun K16 hK16 => ?_
       refine ol_append1 (id := 9) (id2 := 32) rfl rfl rfl rfl rfl rw22 (by omega) rfl fun a33 c33 => ?_
       refine ol_nil (to_k0 (fun _ _ h => h) (hK16 _ _ ⟨.inr (by repeat' first | exact subH_nil | refine subH_same rfl ?_ | (refine subH_blk rfl (by repeat' first | exact sub_nil | refine sub_cons rfl ?_) ?_)), ⟨.inr (by repeat' first | exact subH_nil | refine subH_same rfl ?_ | (refine subH_blk rfl (by repeat' first | exact sub_nil | refine sub_cons rfl ?_) ?_)), ⟨.inl (by kernel_rfl), ⟨.inl (by kernel_rfl), trivial⟩⟩⟩⟩ ?_))
       clear hK16
       refine aq_one (i := 11) (by kernel_rfl) rfl fun K17 hK17 => ?_
       refine ol_store (id := 3) rfl rfl rfl rfl sz22 rfl rfl (by first | decide | exact Nat.zero_lt_succ _ | simp) ?_
       refine ol_nil (to_k0 (fun _ _ h => h) (hK17 _ _ ⟨.inr (by repeat' first | exact subH_nil | refine subH_same rfl ?_ | (refine subH_blk rfl (by repeat' first | exact sub_nil | refine sub_cons rfl ?_) ?_)), ⟨.inl (by kernel_rfl), ⟨.inl (by kernel_rfl), ⟨.inl (by kernel_rfl), trivial⟩⟩⟩⟩ ?_))
       clear hK17
       refine aq_r 12 999 rfl (by kernel_rfl) (by kernel_rfl) (by kernel_rfl) (.head _) (by kernel_rfl) (by kernel_rfl) rfl (r_fa (o' := 1) rfl fl99_1 rfl) ?_
       refine aq_one (i := 13) (by kernel_rfl) rfl fun K18 hK18 => ?_
       refine ol_store (id := 3) rfl rfl rfl rfl sz22 rfl rfl (by first | decide | exact Nat.zero_lt_succ _ | simp) ?_
       refine ol_nil (to_k0 (fun _ _ h => h) (hK18 _ _ ⟨.inr (by repeat' first | exact subH_nil | refine subH_same rfl ?_ | (refine subH_blk rfl (by repeat' first | exact sub_nil | refine sub_cons rfl ?_) ?_)), ⟨.inl (by kernel_rfl), ⟨.inl (by kernel_rfl), ⟨.inl (by kernel_rfl), trivial⟩⟩⟩⟩ ?_))
       clear hK18
       refine aq_done (by kernel_rfl) ?_
       refine (to_k0 (fun _ _ h => h) (hK9 _ _ _ _ _ ?_))
       clear hK9
       refine wp_reg ?_
       refine ol_r (r_add rfl rfl (by omega)) rfl ?_
       refine ol_r (r_move rfl) rfl ?_
       refine ol_nil (to_k0 (fun _ _ h => h) (hK6 ((k + 1, _, _, _, _, _, _)) _ _ ?_ ?_ (sub_cons rfl (sub_cons rfl (sub_cons rfl sub_nil))) (sub_cons rfl (sub_cons rfl (sub_cons rfl (sub_cons rfl sub_nil)))) (by exact (subH_blk rfl (sub_cons rfl (sub_cons rfl sub_nil)) (subH_row rfl (by first | (dsimp only; first | (rw [runS_succ, encI_snoc, show pS xs (k + 1) = v by rw [pS_succ hx15, hv, pv_neg hc18]; omega]; done) | (rw [runS_succ, encI_snoc, show pS xs (k + 1) = v + x15 by rw [pS_succ hx15, hv, pv_nn hc18]]; done) | (rw [runU_succ, encI_snoc, show pU xs (k + 1) = u + 1 by rw [pU_succ hx15, hu, nv_neg hc18]]; done) | (rw [runU_succ, encI_snoc, show pU xs (k + 1) = u by rw [pU_succ hx15, hu, nv_nn hc18]; omega]; done); done) | (first | (rw [runS_succ, encI_snoc, show pS xs (k + 1) = v by rw [pS_succ hx15, hv, pv_neg hc18]; omega]; done) | (rw [runS_succ, encI_snoc, show pS xs (k + 1) = v + x15 by rw [pS_succ hx15, hv, pv_nn hc18]]; done) | (rw [runU_succ, encI_snoc, show pU xs (k + 1) = u + 1 by rw [pU_succ hx15, hu, nv_neg hc18]]; done) | (rw [runU_succ, encI_snoc, show pU xs (k + 1) = u by rw [pU_succ hx15, hu, nv_nn hc18]; omega]; done); done) | (dsimp only; done)) (subH_row rfl (by first | (dsimp only; first | (rw [runS_succ, encI_snoc, show pS xs (k + 1) = v by rw [pS_succ hx15, hv, pv_neg hc18]; omega]; done) | (rw [runS_succ, encI_snoc, show pS xs (k + 1) = v + x15 by rw [pS_succ hx15, hv, pv_nn hc18]]; done) | (rw [runU_succ, encI_snoc, show pU xs (k + 1) = u + 1 by rw [pU_succ hx15, hu, nv_neg hc18]]; done) | (rw [runU_succ, encI_snoc, show pU xs (k + 1) = u by rw [pU_succ hx15, hu, nv_nn hc18]; omega]; done); done) | (first | (rw [runS_succ, encI_snoc, show pS xs (k + 1) = v by rw [pS_succ hx15, hv, pv_neg hc18]; omega]; done) | (rw [runS_succ, encI_snoc, show pS xs (k + 1) = v + x15 by rw [pS_succ hx15, hv, pv_nn hc18]]; done) | (rw [runU_succ, encI_snoc, show pU xs (k + 1) = u + 1 by rw [pU_succ hx15, hu, nv_neg hc18]]; done) | (rw [runU_succ, encI_snoc, show pU xs (k + 1) = u by rw [pU_succ hx15, hu, nv_nn hc18]; omega]; done); done) | (dsimp only; done)) subH_nil)))) (subH_same rfl subH_nil)))
       ·try dsimp only
        first
          | exact ⟨by omega, by rw [pS_succ hx15, hv, pv_neg hc18]; omega, by rw [pU_succ hx15, hu, nv_neg hc18]⟩
          | exact ⟨by omega, by rw [pS_succ hx15, hv, pv_nn hc18], by rw [pU_succ hx15, hu, nv_nn hc18]; omega⟩
       ·try dsimp only
        omega
      ·refine ol_bs1 32 rfl rfl rw22 rfl rfl rfl fun a32 => ?_
       refine ol_nil (to_k0 (fun _ _ h => h) (hK14 _ _ ⟨.inr (by repeat' first | exact subH_nil | refine subH_same rfl ?_ | (refine subH_blk rfl (by repeat' first | exact sub_nil | refine sub_cons rfl ?_) ?_)), ⟨.inr (by repeat' first | exact subH_nil | refine subH_same rfl ?_ | (refine subH_blk rfl (by repeat' first | exact sub_nil | refine sub_cons rfl ?_) ?_)), ⟨.inr (by repeat' first | exact subH_nil | refine subH_same rfl ?_ | (refine subH_blk rfl (by repeat' first | exact sub_nil | refine sub_cons rfl ?_) ?_)), ⟨.inr (by repeat' first | exact subH_nil | refine subH_same rfl ?_ | (refine subH_blk rfl (by repeat' first | exact sub_nil | refine sub_cons rfl ?_) ?_)), trivial⟩⟩⟩⟩ ?_))
       clear hK14
       refine aq_one (i := 4) (by kernel_rfl) rfl fun K15 hK15 => ?_
       refine ol_append1 (id := 8) (id2 := 27) rfl rfl rfl rfl rfl rw22 (by omega) rfl fun a28 c28 => ?_
       refine ol_nil (to_k0 (fun _ _ h => h) (hK15 _ _ ⟨.inr (by repeat' first | exact subH_nil | refine subH_same rfl ?_ | (refine subH_blk rfl (by repeat' first | exact sub_nil | refine sub_cons rfl ?_) ?_)), ⟨.inr (by repeat' first | exact subH_nil | refine subH_same rfl ?_ | (refine subH_blk rfl (by repeat' first | exact sub_nil | refine sub_cons rfl ?_) ?_)), ⟨.inl (by kernel_rfl), ⟨.inr (by repeat' first | exact subH_nil | refine subH_same rfl ?_ | (refine subH_blk rfl (by repeat' first | exact sub_nil | refine sub_cons rfl ?_) ?_)), trivial⟩⟩⟩⟩ ?_))
       clear hK15
       refine aq_r 10 999 rfl (by kernel_rfl) (by kernel_rfl) (by kernel_rfl) (.head _) (by kernel_rfl) (by kernel_rfl) rfl (r_fa (o' := 0) rfl fl99_0 rfl) ?_
       refine aq_one (i := 9) (by kernel_rfl) rfl fun K16 hK16 => ?_
       refine ol_append1 (id := 9) (id2 := 32) rfl rfl rfl rfl rfl rw22 (by omega) rfl fun a33 c33 => ?_
       refine ol_nil (to_k0 (fun _ _ h => h) (hK16 _ _ ⟨.inr (by repeat' first | exact subH_nil | refine subH_same rfl ?_ | (refine subH_blk rfl (by repeat' first | exact sub_nil | refine sub_cons rfl ?_) ?_)), ⟨.inr (by repeat' first | exact subH_nil | refine subH_same rfl ?_ | (refine subH_blk rfl (by repeat' first | exact sub_nil | refine sub_cons rfl ?_) ?_)), ⟨.inl (by kernel_rfl), ⟨.inl (by kernel_rfl), trivial⟩⟩⟩⟩ ?_))
       clear hK16
       refine aq_one (i := 11) (by kernel_rfl) rfl fun K17 hK17 => ?_
       refine ol_store (id := 3) rfl rfl rfl rfl sz22 rfl rfl (by first | decide | exact Nat.zero_lt_succ _ | simp) ?_
       refine ol_nil (to_k0 (fun _ _ h => h) (hK17 _ _ ⟨.inr (by repeat' first | exact subH_nil | refine subH_same rfl ?_ | (refine subH_blk rfl (by repeat' first | exact sub_nil | refine sub_cons rfl ?_) ?_)), ⟨.inl (by kernel_rfl), ⟨.inl (by kernel_rfl), ⟨.inl (by kernel_rfl), trivial⟩⟩⟩⟩ ?_))
       clear hK17
       refine aq_r 12 999 rfl (by kernel_rfl) (by kernel_rfl) (by kernel_rfl) (.head _) (by kernel_rfl) (by kernel_rfl) rfl (r_fa (o' := 1) rfl fl99_1 rfl) ?_
       refine aq_one (i := 13) (by kernel_rfl) rfl fun K18 hK18 => ?_
       refine ol_store (id := 3) rfl rfl rfl rfl sz22 rfl rfl (by first | decide | exact Nat.zero_lt_succ _ | simp) ?_
       refine ol_nil (to_k0 (fun _ _ h => h) (hK18 _ _ ⟨.inr (by repeat' first | exact subH_nil | refine subH_same rfl ?_ | (refine subH_blk rfl (by repeat' first | exact sub_nil | refine sub_cons rfl ?_) ?_)), ⟨.inl (by kernel_rfl), ⟨.inl (by kernel_rfl), ⟨.inl (by kernel_rfl), trivial⟩⟩⟩⟩ ?_))
       clear hK18
       refine aq_done (by kernel_rfl) ?_
       refine (to_k0 (fun _ _ h => h) (hK9 _ _ _ _ _ ?_))
       clear hK9
       refine wp_reg ?_
       refine ol_r (r_add rfl rfl (by omega)) rfl ?_
       refine ol_r (r_move rfl) rfl ?_
       refine ol_nil (to_k0 (fun _ _ h => h) (hK6 ((k + 1, _, _, _, _, _, _)) _ _ ?_ ?_ (sub_cons rfl (sub_cons rfl (sub_cons rfl sub_nil))) (sub_cons rfl (sub_cons rfl (sub_cons rfl (sub_cons rfl sub_nil)))) (by exact (subH_blk rfl (sub_cons rfl (sub_cons rfl sub_nil)) (subH_row rfl (by first | (dsimp only; first | (rw [runS_succ, encI_snoc, show pS xs (k + 1) = v by rw [pS_succ hx15, hv, pv_neg hc18]; omega]; done) | (rw [runS_succ, encI_snoc, show pS xs (k + 1) = v + x15 by rw [pS_succ hx15, hv, pv_nn hc18]]; done) | (rw [runU_succ, encI_snoc, show pU xs (k + 1) = u + 1 by rw [pU_succ hx15, hu, nv_neg hc18]]; done) | (rw [runU_succ, encI_snoc, show pU xs (k + 1) = u by rw [pU_succ hx15, hu, nv_nn hc18]; omega]; done); done) | (first | (rw [runS_succ, encI_snoc, show pS xs (k + 1) = v by rw [pS_succ hx15, hv, pv_neg hc18]; omega]; done) | (rw [runS_succ, encI_snoc, show pS xs (k + 1) = v + x15 by rw [pS_succ hx15, hv, pv_nn hc18]]; done) | (rw [runU_succ, encI_snoc, show pU xs (k + 1) = u + 1 by rw [pU_succ hx15, hu, nv_neg hc18]]; done) | (rw [runU_succ, encI_snoc, show pU xs (k + 1) = u by rw [pU_succ hx15, hu, nv_nn hc18]; omega]; done); done) | (dsimp only; done)) (subH_row rfl (by first | (dsimp only; first | (rw [runS_succ, encI_snoc, show pS xs (k + 1) = v by rw [pS_succ hx15, hv, pv_neg hc18]; omega]; done) | (rw [runS_succ, encI_snoc, show pS xs (k + 1) = v + x15 by rw [pS_succ hx15, hv, pv_nn hc18]]; done) | (rw [runU_succ, encI_snoc, show pU xs (k + 1) = u + 1 by rw [pU_succ hx15, hu, nv_neg hc18]]; done) | (rw [runU_succ, encI_snoc, show pU xs (k + 1) = u by rw [pU_succ hx15, hu, nv_nn hc18]; omega]; done); done) | (first | (rw [runS_succ, encI_snoc, show pS xs (k + 1) = v by rw [pS_succ hx15, hv, pv_neg hc18]; omega]; done) | (rw [runS_succ, encI_snoc, show pS xs (k + 1) = v + x15 by rw [pS_succ hx15, hv, pv_nn hc18]]; done) | (rw [runU_succ, encI_snoc, show pU xs (k + 1) = u + 1 by rw [pU_succ hx15, hu, nv_neg hc18]]; done) | (rw [runU_succ, encI_snoc, show pU xs (k + 1) = u by rw [pU_succ hx15, hu, nv_nn hc18]; omega]; done); done) | (dsimp only; done)) subH_nil)))) (subH_same rfl subH_nil)))
       ·try dsimp only
        first
          | exact ⟨by omega, by rw [pS_succ hx15, hv, pv_neg hc18]; omega, by rw [pU_succ hx15, hu, nv_neg hc18]⟩
          | exact ⟨by omega, by rw [pS_succ hx15, hv, pv_nn hc18], by rw [pU_succ hx15, hu, nv_nn hc18]; omega⟩
       ·try dsimp only
        omega
     ·refine ol_bs1 32 rfl rfl rw22 rfl rfl rfl fun a32 => ?_
      refine ol_nil (to_k0 (fun _ _ h => h) (hK13 _ _ ⟨.inr (by repeat' first | exact subH_nil | refine subH_same rfl ?_ | (refine subH_blk rfl (by repeat' first | exact sub_nil | refine sub_cons rfl ?_) ?_)), ⟨.inr (by repeat' first | exact subH_nil | refine subH_same rfl ?_ | (refine subH_blk rfl (by repeat' first | exact sub_nil | refine sub_cons rfl ?_) ?_)), ⟨.inr (by repeat' first | exact subH_nil | refine subH_same rfl ?_ | (refine subH_blk rfl (by repeat' first | exact sub_nil | refine sub_cons rfl ?_) ?_)), ⟨.inr (by repeat' first | exact subH_nil | refine subH_same rfl ?_ | (refine subH_blk rfl (by repeat' first | exact sub_nil | refine sub_cons rfl ?_) ?_)), trivial⟩⟩⟩⟩ ?_))
      clear hK13
      refine aq_one (i := 3) (by kernel_rfl) rfl fun K14 hK14 => ?_
      refine ol_bs1 27 rfl rfl rw22 rfl rfl rfl fun a27 => ?_
      refine ol_nil (to_k0 (fun _ _ h => h) (hK14 _ _ ⟨.inr (by repeat' first | exact subH_nil | refine subH_same rfl ?_ | (refine subH_blk rfl (by repeat' first | exact sub_nil | refine sub_cons rfl ?_) ?_)), ⟨.inr (by repeat' first | exact subH_nil | refine subH_same rfl ?_ | (refine subH_blk rfl (by repeat' first | exact sub_nil | refine sub_cons rfl ?_) ?_)), ⟨.inr (by repeat' first | exact subH_nil | refine subH_same rfl ?_ | (refine subH_blk rfl (by repeat' first | exact sub_nil | refine sub_cons rfl ?_) ?_)), ⟨.inr (by repeat' first | exact subH_nil | refine subH_same rfl ?_ | (refine subH_blk rfl (by repeat' first | exact sub_nil | refine sub_cons rfl ?_) ?_)), trivial⟩⟩⟩⟩ ?_))
      clear hK14
      refine aq_one (i := 4) (by kernel_rfl) rfl fun K15 hK15 => ?_
      refine ol_append1 (id := 8) (id2 := 27) rfl rfl rfl rfl rfl rw22 (by omega) rfl fun a28 c28 => ?_
      refine ol_nil (to_k0 (fun _ _ h => h) (hK15 _ _ ⟨.inr (by repeat' first | exact subH_nil | refine subH_same rfl ?_ | (refine subH_blk rfl (by repeat' first | exact sub_nil | refine sub_cons rfl ?_) ?_)), ⟨.inr (by repeat' first | exact subH_nil | refine subH_same rfl ?_ | (refine subH_blk rfl (by repeat' first | exact sub_nil | refine sub_cons rfl ?_) ?_)), ⟨.inl (by kernel_rfl), ⟨.inr (by repeat' first | exact subH_nil | refine subH_same rfl ?_ | (refine subH_blk rfl (by repeat' first | exact sub_nil | refine sub_cons rfl ?_) ?_)), trivial⟩⟩⟩⟩ ?_))
      clear hK15
      refine aq_r 10 999 rfl (by kernel_rfl) (by kernel_rfl) (by kernel_rfl) (.head _) (by kernel_rfl) (by kernel_rfl) rfl (r_fa (o' := 0) rfl fl99_0 rfl) ?_
      refine aq_one (i := 9) (by kernel_rfl) rfl fun K16 hK16 => ?_
      refine ol_append1 (id := 9) (id2 := 32) rfl rfl rfl rfl rfl rw22 (by omega) rfl fun a33 c33 => ?_
      refine ol_nil (to_k0 (fun _ _ h => h) (hK16 _ _ ⟨.inr (by repeat' first | exact subH_nil | refine subH_same rfl ?_ | (refine subH_blk rfl (by repeat' first | exact sub_nil | refine sub_cons rfl ?_) ?_)), ⟨.inr (by repeat' first | exact subH_nil | refine subH_same rfl ?_ | (refine subH_blk rfl (by repeat' first | exact sub_nil | refine sub_cons rfl ?_) ?_)), ⟨.inl (by kernel_rfl), ⟨.inl (by kernel_rfl), trivial⟩⟩⟩⟩ ?_))
      clear hK16
      refine aq_one (i := 11) (by kernel_rfl) rfl fun K17 hK17 => ?_
      refine ol_store (id := 3) rfl rfl rfl rfl sz22 rfl rfl (by first | decide | exact Nat.zero_lt_succ _ | simp) ?_
      refine ol_nil (to_k0 (fun _ _ h => h) (hK17 _ _ ⟨.inr (by repeat' first | exact subH_nil | refine subH_same rfl ?_ | (refine subH_blk rfl (by repeat' first | exact sub_nil | refine sub_cons rfl ?_) ?_)), ⟨.inl (by kernel_rfl), ⟨.inl (by kernel_rfl), ⟨.inl (by kernel_rfl), trivial⟩⟩⟩⟩ ?_))
      clear hK17
      refine aq_r 12 999 rfl (by kernel_rfl) (by kernel_rfl) (by kernel_rfl) (.head _) (by kernel_rfl) (by kernel_rfl) rfl (r_fa (o' := 1) rfl fl99_1 rfl) ?_
      refine aq_one (i := 13) (by kernel_rfl) rfl fun K18 hK18 => ?_
      refine ol_store (id := 3) rfl rfl rfl rfl sz22 rfl rfl (by first | decide | exact Nat.zero_lt_succ _ | simp) ?_
      refine ol_nil (to_k0 (fun _ _ h => h) (hK18 _ _ ⟨.inr (by repeat' first | exact subH_nil | refine subH_same rfl ?_ | (refine subH_blk rfl (by repeat' first | exact sub_nil | refine sub_cons rfl ?_) ?_)), ⟨.inl (by kernel_rfl), ⟨.inl (by kernel_rfl), ⟨.inl (by kernel_rfl), trivial⟩⟩⟩⟩ ?_))
      clear hK18
      refine aq_done (by kernel_rfl) ?_
      refine (to_k0 (fun _ _ h => h) (hK9 _ _ _ _ _ ?_))
      clear hK9
      refine wp_reg ?_
      refine ol_r (r_add rfl rfl (by omega)) rfl ?_
      refine ol_r (r_move rfl) rfl ?_
      refine ol_nil (to_k0 (fun _ _ h => h) (hK6 ((k + 1, _, _, _, _, _, _)) _ _ ?_ ?_ (sub_cons rfl (sub_cons rfl (sub_cons rfl sub_nil))) (sub_cons rfl (sub_cons rfl (sub_cons rfl (sub_cons rfl sub_nil)))) (by exact (subH_blk rfl (sub_cons rfl (sub_cons rfl sub_nil)) (subH_row rfl (by first | (dsimp only; first | (rw [runS_succ, encI_snoc, show pS xs (k + 1) = v by rw [pS_succ hx15, hv, pv_neg hc18]; omega]; done) | (rw [runS_succ, encI_snoc, show pS xs (k + 1) = v + x15 by rw [pS_succ hx15, hv, pv_nn hc18]]; done) | (rw [runU_succ, encI_snoc, show pU xs (k + 1) = u + 1 by rw [pU_succ hx15, hu, nv_neg hc18]]; done) | (rw [runU_succ, encI_snoc, show pU xs (k + 1) = u by rw [pU_succ hx15, hu, nv_nn hc18]; omega]; done); done) | (first | (rw [runS_succ, encI_snoc, show pS xs (k + 1) = v by rw [pS_succ hx15, hv, pv_neg hc18]; omega]; done) | (rw [runS_succ, encI_snoc, show pS xs (k + 1) = v + x15 by rw [pS_succ hx15, hv, pv_nn hc18]]; done) | (rw [runU_succ, encI_snoc, show pU xs (k + 1) = u + 1 by rw [pU_succ hx15, hu, nv_neg hc18]]; done) | (rw [runU_succ, encI_snoc, show pU xs (k + 1) = u by rw [pU_succ hx15, hu, nv_nn hc18]; omega]; done); done) | (dsimp only; done)) (subH_row rfl (by first | (dsimp only; first | (rw [runS_succ, encI_snoc, show pS xs (k + 1) = v by rw [pS_succ hx15, hv, pv_neg hc18]; omega]; done) | (rw [runS_succ, encI_snoc, show pS xs (k + 1) = v + x15 by rw [pS_succ hx15, hv, pv_nn hc18]]; done) | (rw [runU_succ, encI_snoc, show pU xs (k + 1) = u + 1 by rw [pU_succ hx15, hu, nv_neg hc18]]; done) | (rw [runU_succ, encI_snoc, show pU xs (k + 1) = u by rw [pU_succ hx15, hu, nv_nn hc18]; omega]; done); done) | (first | (rw [runS_succ, encI_snoc, show pS xs (k + 1) = v by rw [pS_succ hx15, hv, pv_neg hc18]; omega]; done) | (rw [runS_succ, encI_snoc, show pS xs (k + 1) = v + x15 by rw [pS_succ hx15, hv, pv_nn hc18]]; done) | (rw [runU_succ, encI_snoc, show pU xs (k + 1) = u + 1 by rw [pU_succ hx15, hu, nv_neg hc18]]; done) | (rw [runU_succ, encI_snoc, show pU xs (k + 1) = u by rw [pU_succ hx15, hu, nv_nn hc18]; omega]; done); done) | (dsimp only; done)) subH_nil)))) (subH_same rfl subH_nil)))
      ·try dsimp only
       first
         | exact ⟨by omega, by rw [pS_succ hx15, hv, pv_neg hc18]; omega, by rw [pU_succ hx15, hu, nv_neg hc18]⟩
         | exact ⟨by omega, by rw [pS_succ hx15, hv, pv_nn hc18], by rw [pU_succ hx15, hu, nv_nn hc18]; omega⟩
      ·try dsimp only
       omega
    ·refine wp_reg ?_
     refine ol_r (r_move rfl) rfl ?_
     refine ol_r (r_move rfl) rfl ?_
     refine ol_r (r_add rfl rfl (by omega)) rfl ?_
     refine ol_r (r_assign rfl) rfl ?_
     refine ol_nil (to_k0 (fun _ _ h => h) (hK11 _ _ _ _ _ ?_))
     clear hK11
     refine wp_rega [(999, [(2, _)]), (11, [(3, _)]), (4, [(8, _)]), (9, [(9, _)])] (by kernel_rfl) ⟨.inr (subH_same rfl subH_nil), ⟨.inr (subH_same rfl subH_nil), ⟨.inr (subH_same rfl subH_nil), ⟨.inr (subH_same rfl subH_nil), trivial⟩⟩⟩⟩ ?_
     refine aq_r 0 999 rfl (by kernel_rfl) (by kernel_rfl) (by kernel_rfl) (.head _) (by kernel_rfl) (by kernel_rfl) rfl (r_fa (o' := 0) rfl fl99_0 rfl) ?_
     refine aq_r 1 11 rfl (by kernel_rfl) (by kernel_rfl) (by kernel_rfl) (.tail _ (.head _)) (by kernel_rfl) (by kernel_rfl) rfl (r_ld (id := 3) rfl rfl rfl sc22) ?_
     refine aq_r 2 999 rfl (by kernel_rfl) (by kernel_rfl) (by kernel_rfl) (.head _) (by kernel_rfl) (by kernel_rfl) rfl (r_move rfl) ?_
     refine aq_r 5 999 rfl (by kernel_rfl) (by kernel_rfl) (by kernel_rfl) (.head _) (by kernel_rfl) (by kernel_rfl) rfl (r_fa (o' := 1) rfl fl99_1 rfl) ?_
     refine aq_r 6 11 rfl (by kernel_rfl) (by kernel_rfl) (by kernel_rfl) (.tail _ (.head _)) (by kernel_rfl) (by kernel_rfl) rfl (r_ld (id := 3) rfl rfl rfl sc22) ?_
     refine aq_r 7 999 rfl (by kernel_rfl) (by kernel_rfl) (by kernel_rfl) (.head _) (by kernel_rfl) (by kernel_rfl) rfl (r_move rfl) ?_
     refine aq_two (i := 3) (j := 8) (by kernel_rfl) rfl rfl (fun K19 hK19 => ?_) (fun K19 hK19 => ?_)
     ·refine ol_bs1 27 rfl rfl rw22 rfl rfl rfl fun a27 => ?_
      refine ol_nil (to_k0 (fun _ _ h => h) (hK19 _ _ ⟨.inr (by repeat' first | exact subH_nil | refine subH_same rfl ?_ | (refine subH_blk rfl (by repeat' first | exact sub_nil | refine sub_cons rfl ?_) ?_)), ⟨.inr (by repeat' first | exact subH_nil | refine subH_same rfl ?_ | (refine subH_blk rfl (by repeat' first | exact sub_nil | refine sub_cons rfl ?_) ?_)), ⟨.inr (by repeat' first | exact subH_nil | refine subH_same rfl ?_ | (refine subH_blk rfl (by repeat' first | exact sub_nil | refine sub_cons rfl ?_) ?_)), ⟨.inr (by repeat' first | exact subH_nil | refine subH_same rfl ?_ | (refine subH_blk rfl (by repeat' first | exact sub_nil | refine sub_cons rfl ?_) ?_)), trivial⟩⟩⟩⟩ ?_))
      clear hK19
      refine aq_two (i := 4) (j := 8) (by kernel_rfl) rfl rfl (fun K20 hK20 => ?_) (fun K20 hK20 => ?_)
      ·refine ol_append1 (id := 8) (id2 := 27) rfl rfl rfl rfl rfl rw22 (by omega) rfl fun a28 c28 => ?_
       refine ol_nil (to_k0 (fun _ _ h => h) (hK20 _ _ ⟨.inr (by repeat' first | exact subH_nil | refine subH_same rfl ?_ | (refine subH_blk rfl (by repeat' first | exact sub_nil | refine sub_cons rfl ?_) ?_)), ⟨.inr (by repeat' first | exact subH_nil | refine subH_same rfl ?_ | (refine subH_blk rfl (by repeat' first | exact sub_nil | refine sub_cons rfl ?_) ?_)), ⟨.inl (by kernel_rfl), ⟨.inr (by repeat' first | exact subH_nil | refine subH_same rfl ?_ | (refine subH_blk rfl (by repeat' first | exact sub_nil | refine sub_cons rfl ?_) ?_)), trivial⟩⟩⟩⟩ ?_))
       clear hK20
       refine aq_r 10 999 rfl (by kernel_rfl) (by kernel_rfl) (by kernel_rfl) (.head _) (by kernel_rfl) (by kernel_rfl) rfl (r_fa (o' := 0) rfl fl99_0 rfl) ?_
       refine aq_one (i := 8) (by kernel_rfl) rfl fun K21 hK21 => ?_
       refine ol_bs1 32 rfl rfl rw22 rfl rfl rfl fun a32 => ?_
       refine ol_nil (to_k0 (fun _ _ h => h) (hK21 _ _ ⟨.inr (by repeat' first | exact subH_nil | refine subH_same rfl ?_ | (refine subH_blk rfl (by repeat' first | exact sub_nil | refine sub_cons rfl ?_) ?_)), ⟨.inr (by repeat' first | exact subH_nil | refine subH_same rfl ?_ | (refine subH_blk rfl (by repeat' first | exact sub_nil | refine sub_cons rfl ?_) ?_)), ⟨.inl (by kernel_rfl), ⟨.inr (by repeat' first | exact subH_nil | refine subH_same rfl ?_ | (refine subH_blk rfl (by repeat' first | exact sub_nil | refine sub_cons rfl ?_) ?_)), trivial⟩⟩⟩⟩ ?_))
       clear hK21
       refine aq_one (i := 9) (by kernel_rfl) rfl fun K22 hK22 => ?_
       refine ol_append1 (id := 9) (id2 := 32) rfl rfl rfl rfl rfl rw22 (by omega) rfl fun a33 c33 => ?_
       refine ol_nil (to_k0 (fun _ _ h => h) (hK22 _ _ ⟨.inr (by repeat' first | exact subH_nil | refine subH_same rfl ?_ | (refine subH_blk rfl (by repeat' first | exact sub_nil | refine sub_cons rfl ?_) ?_)), ⟨.inr (by repeat' first | exact subH_nil | refine subH_same rfl ?_ | (refine subH_blk rfl (by repeat' first | exact sub_nil | refine sub_cons rfl ?_) ?_)), ⟨.inl (by kernel_rfl), ⟨.inl (by kernel_rfl), trivial⟩⟩⟩⟩ ?_))
       clear hK22
       refine aq_one (i := 11) (by kernel_rfl) rfl fun K23 hK23 => ?_
       refine ol_store (id := 3) rfl rfl rfl rfl sz22 rfl rfl (by first | decide | exact Nat.zero_lt_succ _ | simp) ?_
       refine ol_nil (to_k0 (fun _ _ h => h) (hK23 _ _ ⟨.inr (by repeat' first | exact subH_nil | refine subH_same rfl ?_ | (refine subH_blk rfl (by repeat' first | exact sub_nil | refine sub_cons rfl ?_) ?_)), ⟨.inl (by kernel_rfl), ⟨.inl (by kernel_rfl), ⟨.inl (by kernel_rfl), trivial⟩⟩⟩⟩ ?_))
       clear hK23
       refine aq_r 12 999 rfl (by kernel_rfl) (by kernel_rfl) (by kernel_rfl) (.head _) (by kernel_rfl) (by kernel_rfl) rfl (r_fa (o' := 1) rfl fl99_1 rfl) ?_
       refine aq_one (i := 13) (by kernel_rfl) rfl fun K24 hK24 => ?_
       refine ol_store (id := 3) rfl rfl rfl rfl sz22 rfl rfl (by first | decide | exact Nat.zero_lt_succ _ | simp) ?_
       refine ol_nil (to_k0 (fun _ _ h => h) (hK24 _ _ ⟨.inr (by repeat' first | exact subH_nil | refine subH_same rfl ?_ | (refine subH_blk rfl (by repeat' first | exact sub_nil | refine sub_cons rfl ?_) ?_)), ⟨.inl (by kernel_rfl), ⟨.inl (by kernel_rfl), ⟨.inl (by kernel_rfl), trivial⟩⟩⟩⟩ ?_))
       clear hK24
       refine aq_done (by kernel_rfl) ?_
       refine (to_k0 (fun _ _ h => h) (hK9 _ _ _ _ _ ?_))
       clear hK9
       refine wp_reg ?_
       refine ol_r (r_add rfl rfl (by omega)) rfl ?_
       refine ol_r (r_move rfl) rfl ?_
       refine ol_nil (to_k0 (fun _ _ h => h) (hK6 ((k + 1, _, _, _, _, _, _)) _ _ ?_ ?_ (sub_cons rfl (sub_cons rfl (sub_cons rfl sub_nil))) (sub_cons rfl (sub_cons rfl (sub_cons rfl (sub_cons rfl sub_nil)))) (by exact (subH_blk rfl (sub_cons rfl (sub_cons rfl sub_nil)) (subH_row rfl (by first | (dsimp only; first | (rw [runS_succ, encI_snoc, show pS xs (k + 1) = v by rw [pS_succ hx15, hv, pv_neg hc18]; omega]; done) | (rw [runS_succ, encI_snoc, show pS xs (k + 1) = v + x15 by rw [pS_succ hx15, hv, pv_nn hc18]]; done) | (rw [runU_succ, encI_snoc, show pU xs (k + 1) = u + 1 by rw [pU_succ hx15, hu, nv_neg hc18]]; done) | (rw [runU_succ, encI_snoc, show pU xs (k + 1) = u by rw [pU_succ hx15, hu, nv_nn hc18]; omega]; done); done) | (first | (rw [runS_succ, encI_snoc, show pS xs (k + 1) = v by rw [pS_succ hx15, hv, pv_neg hc18]; omega]; done) | (rw [runS_succ, encI_snoc, show pS xs (k + 1) = v + x15 by rw [pS_succ hx15, hv, pv_nn hc18]]; done) | (rw [runU_succ, encI_snoc, show pU xs (k + 1) = u + 1 by rw [pU_succ hx15, hu, nv_neg hc18]]; done) | (rw [runU_succ, encI_snoc, show pU xs (k + 1) = u by rw [pU_succ hx15, hu, nv_nn hc18]; omega]; done); done) | (dsimp only; done)) (subH_row rfl (by first | (dsimp only; first | (rw [runS_succ, encI_snoc, show pS xs (k + 1) = v by rw [pS_succ hx15, hv, pv_neg hc18]; omega]; done) | (rw [runS_succ, encI_snoc, show pS xs (k + 1) = v + x15 by rw [pS_succ hx15, hv, pv_nn hc18]]; done) | (rw [runU_succ, encI_snoc, show pU xs (k + 1) = u + 1 by rw [pU_succ hx15, hu, nv_neg hc18]]; done) | (rw [runU_succ, encI_snoc, show pU xs (k + 1) = u by rw [pU_succ hx15, hu, nv_nn hc18]; omega]; done); done) | (first | (rw [runS_succ, encI_snoc, show pS xs (k + 1) = v by rw [pS_succ hx15, hv, pv_neg hc18]; omega]; done) | (rw [runS_succ, encI_snoc, show pS xs (k + 1) = v + x15 by rw [pS_succ hx15, hv, pv_nn hc18]]; done) | (rw [runU_succ, encI_snoc, show pU xs (k + 1) = u + 1 by rw [pU_succ hx15, hu, nv_neg hc18]]; done) | (rw [runU_succ, encI_snoc, show pU xs (k + 1) = u by rw [pU_succ hx15, hu, nv_nn hc18]; omega]; done); done) | (dsimp only; done)) subH_nil)))) (subH_same rfl subH_nil)))
       ·try dsimp only
        first
          | exact ⟨by omega, by rw [pS_succ hx15, hv, pv_neg hc18]; omega, by rw [pU_succ hx15, hu, nv_neg hc18]⟩
          | exact ⟨by omega, by rw [pS_succ hx15, hv, pv_nn hc18], by rw [pU_succ hx15, hu, nv_nn hc18]; omega⟩
       ·try dsimp only
        omega
      ·refine ol_bs1 32 rfl rfl rw22 rfl rfl rfl fun a32 => ?_
       refine ol_nil (to_k0 (fun _ _ h => h) (hK20 _ _ ⟨.inr (by repeat' first | exact subH_nil | refine subH_same rfl ?_ | (refine subH_blk rfl (by repeat' first | exact sub_nil | refine sub_cons rfl ?_) ?_)), ⟨.inr (by repeat' first | exact subH_nil | refine subH_same rfl ?_ | (refine subH_blk rfl (by repeat' first | exact sub_nil | refine sub_cons rfl ?_) ?_)), ⟨.inr (by repeat' first | exact subH_nil | refine subH_same rfl ?_ | (refine subH_blk rfl (by repeat' first | exact sub_nil | refine sub_cons rfl ?_) ?_)), ⟨.inr (by repeat' first | exact subH_nil | refine subH_same rfl ?_ | (refine subH_blk rfl (by repeat' first | exact sub_nil | refine sub_cons rfl ?_) ?_)), trivial⟩⟩⟩⟩ ?_))
       clear hK20
       refine aq_one (i := 4) (by kernel_rfl) rfl fun K21 hK21 => ?_
       refine ol_append1 (id := 8) (id2 := 27) rfl rfl rfl rfl rfl rw22 (by omega) rfl fun a28 c28 => ?_
       refine ol_nil (to_k0 (fun _ _ h => h) (hK21 _ _ ⟨.inr (by repeat' first | exact subH_nil | refine subH_same rfl ?_ | (refine subH_blk rfl (by repeat' first | exact sub_nil | refine sub_cons rfl ?_) ?_)), ⟨.inr (by repeat' first | exact subH_nil | refine subH_same rfl ?_ | (refine subH_blk rfl (by repeat' first | exact sub_nil | refine sub_cons rfl ?_) ?_)), ⟨.inl (by kernel_rfl), ⟨.inr (by repeat' first | exact subH_nil | refine subH_same rfl ?_ | (refine subH_blk rfl (by repeat' first | exact sub_nil | refine sub_cons rfl ?_) ?_)), trivial⟩⟩⟩⟩ ?_))
       clear hK21
       refine aq_r 10 999 rfl (by kernel_rfl) (by kernel_rfl) (by kernel_rfl) (.head _) (by kernel_rfl) (by kernel_rfl) rfl (r_fa (o' := 0) rfl fl99_0 rfl) ?_
       refine aq_one (i := 9) (by kernel_rfl) rfl fun K22 hK22 => ?_
       refine ol_append1 (id := 9) (id2 := 32) rfl rfl rfl rfl rfl rw22 (by omega) rfl fun a33 c33 => ?_
       refine ol_nil (to_k0 (fun _ _ h => h) (hK22 _ _ ⟨.inr (by repeat' first | exact subH_nil | refine subH_same rfl ?_ | (refine subH_blk rfl (by repeat' first | exact sub_nil | refine sub_cons rfl ?_) ?_)), ⟨.inr (by repeat' first | exact subH_nil | refine subH_same rfl ?_ | (refine subH_blk rfl (by repeat' first | exact sub_nil | refine sub_cons rfl ?_) ?_)), ⟨.inl (by kernel_rfl), ⟨.inl (by kernel_rfl), trivial⟩⟩⟩⟩ ?_))
       clear hK22
       refine aq_one (i := 11) (by kernel_rfl) rfl fun K23 hK23 => ?_
       refine ol_store (id := 3) rfl rfl rfl rfl sz22 rfl rfl (by first | decide | exact Nat.zero_lt_succ _ | simp) ?_
       refine ol_nil (to_k0 (fun _ _ h => h) (hK23 _ _ ⟨.inr (by repeat' first | exact subH_nil | refine subH_same rfl ?_ | (refine subH_blk rfl (by repeat' first | exact sub_nil | refine sub_cons rfl ?_) ?_)), ⟨.inl (by kernel_rfl), ⟨.inl (by kernel_rfl), ⟨.inl (by kernel_rfl), trivial⟩⟩⟩⟩ ?_))
       clear hK23
       refine aq_r 12 999 rfl (by kernel_rfl) (by kernel_rfl) (by kernel_rfl) (.head _) (by kernel_rfl) (by kernel_rfl) rfl (r_fa (o' := 1) rfl fl99_1 rfl) ?_
       refine aq_one (i := 13) (by kernel_rfl) rfl fun K24 hK24 => ?_
       refine ol_store (id := 3) rfl rfl rfl rfl sz22 rfl rfl (by first | decide | exact Nat.zero_lt_succ _ | simp) ?_
       refine ol_nil (to_k0 (fun _ _ h => h) (hK24 _ _ ⟨.inr (by repeat' first | exact subH_nil | refine subH_same rfl ?_ | (refine subH_blk rfl (by repeat' first | exact sub_nil | refine sub_cons rfl ?_) ?_)), ⟨.inl (by kernel_rfl), ⟨.inl (by kernel_rfl), ⟨.inl (by kernel_rfl), trivial⟩⟩⟩⟩ ?_))
       clear hK24
       refine aq_done (by kernel_rfl) ?_
       refine (to_k0 (fun _ _ h => h) (hK9 _ _ _ _ _ ?_))
       clear hK9
       refine wp_reg ?_
       refine ol_r (r_add rfl rfl (by omega)) rfl ?_
       refine ol_r (r_move rfl) rfl ?_
       refine ol_nil (to_k0 (fun _ _ h => h) (hK6 ((k + 1, _, _, _, _, _, _)) _ _ ?_ ?_ (sub_cons rfl (sub_cons rfl (sub_cons rfl sub_nil))) (sub_cons rfl (sub_cons rfl (sub_cons rfl (sub_cons rfl sub_nil)))) (by exact (subH_blk rfl (sub_cons rfl (sub_cons rfl sub_nil)) (subH_row rfl (by first | (dsimp only; first | (rw [runS_succ, encI_snoc, show pS xs (k + 1) = v by rw [pS_succ hx15, hv, pv_neg hc18]; omega]; done) | (rw [runS_succ, encI_snoc, show pS xs (k + 1) = v + x15 by rw [pS_succ hx15, hv, pv_nn hc18]]; done) | (rw [runU_succ, encI_snoc, show pU xs (k + 1) = u + 1 by rw [pU_succ hx15, hu, nv_neg hc18]]; done) | (rw [runU_succ, encI_snoc, show pU xs (k + 1) = u by rw [pU_succ hx15, hu, nv_nn hc18]; omega]; done); done) | (first | (rw [runS_succ, encI_snoc, show pS xs (k + 1) = v by rw [pS_succ hx15, hv, pv_neg hc18]; omega]; done) | (rw [runS_succ, encI_snoc, show pS xs (k + 1) = v + x15 by rw [pS_succ hx15, hv, pv_nn hc18]]; done) | (rw [runU_succ, encI_snoc, show pU xs (k + 1) = u + 1 by rw [pU_succ hx15, hu, nv_neg hc18]]; done) | (rw [runU_succ, encI_snoc, show pU xs (k + 1) = u by rw [pU_succ hx15, hu, nv_nn hc18]; omega]; done); done) | (dsimp only; done)) (subH_row rfl (by first | (dsimp only; first | (rw [runS_succ, encI_snoc, show pS xs (k + 1) = v by rw [pS_succ hx15, hv, pv_neg hc18]; omega]; done) | (rw [runS_succ, encI_snoc, show pS xs (k + 1) = v + x15 by rw [pS_succ hx15, hv, pv_nn hc18]]; done) | (rw [runU_succ, encI_snoc, show pU xs (k + 1) = u + 1 by rw [pU_succ hx15, hu, nv_neg hc18]]; done) | (rw [runU_succ, encI_snoc, show pU xs (k + 1) = u by rw [pU_succ hx15, hu, nv_nn hc18]; omega]; done); done) | (first | (rw [runS_succ, encI_snoc, show pS xs (k + 1) = v by rw [pS_succ hx15, hv, pv_neg hc18]; omega]; done) | (rw [runS_succ, encI_snoc, show pS xs (k + 1) = v + x15 by rw [pS_succ hx15, hv, pv_nn hc18]]; done) | (rw [runU_succ, encI_snoc, show pU xs (k + 1) = u + 1 by rw [pU_succ hx15, hu, nv_neg hc18]]; done) | (rw [runU_succ, encI_snoc, show pU xs (k + 1) = u by rw [pU_succ hx15, hu, nv_nn hc18]; omega]; done); done) | (dsimp only; done)) subH_nil)))) (subH_same rfl subH_nil)))
       ·try dsimp only
        first
          | exact ⟨by omega, by rw [pS_succ hx15, hv, pv_neg hc18]; omega, by rw [pU_succ hx15, hu, nv_neg hc18]⟩
          | exact ⟨by omega, by rw [pS_succ hx15, hv, pv_nn hc18], by rw [pU_succ hx15, hu, nv_nn hc18]; omega⟩
       ·try dsimp only
        omega
     ·refine ol_bs1 32 rfl rfl rw22 rfl rfl rfl fun a32 => ?_
      refine ol_nil (to_k0 (fun _ _ h => h) (hK19 _ _ ⟨.inr (by repeat' first | exact subH_nil | refine subH_same rfl ?_ | (refine subH_blk rfl (by repeat' first | exact sub_nil | refine sub_cons rfl ?_) ?_)), ⟨.inr (by repeat' first | exact subH_nil | refine subH_same rfl ?_ | (refine subH_blk rfl (by repeat' first | exact sub_nil | refine sub_cons rfl ?_) ?_)), ⟨.inr (by repeat' first | exact subH_nil | refine subH_same rfl ?_ | (refine subH_blk rfl (by repeat' first | exact sub_nil | refine sub_cons rfl ?_) ?_)), ⟨.inr (by repeat' first | exact subH_nil | refine subH_same rfl ?_ | (refine subH_blk rfl (by repeat' first | exact sub_nil | refine sub_cons rfl ?_) ?_)), trivial⟩⟩⟩⟩ ?_))
      clear hK19
      refine aq_one (i := 3) (by kernel_rfl) rfl fun K20 hK20 => ?_
      refine ol_bs1 27 rfl rfl rw22 rfl rfl rfl fun a27 => ?_
      refine ol_nil (to_k0 (fun _ _ h => h) (hK20 _ _ ⟨.inr (by repeat' first | exact subH_nil | refine subH_same rfl ?_ | (refine subH_blk rfl (by repeat' first | exact sub_nil | refine sub_cons rfl ?_) ?_)), ⟨.inr (by repeat' first | exact subH_nil | refine subH_same rfl ?_ | (refine subH_blk rfl (by repeat' first | exact sub_nil | refine sub_cons rfl ?_) ?_)), ⟨.inr (by repeat' first | exact subH_nil | refine subH_same rfl ?_ | (refine subH_blk rfl (by repeat' first | exact sub_nil | refine sub_cons rfl ?_) ?_)), ⟨.inr (by repeat' first | exact subH_nil | refine subH_same rfl ?_ | (refine subH_blk rfl (by repeat' first | exact sub_nil | refine sub_cons rfl ?_) ?_)), trivial⟩⟩⟩⟩ ?_))
      clear hK20
      refine aq_one (i := 4) (by kernel_rfl) rfl fun K21 hK21 => ?_
      refine ol_append1 (id := 8) (id2 := 27) rfl rfl rfl rfl rfl rw22 (by omega) rfl fun a28 c28 => ?_
      refine ol_nil (to_k0 (fun _ _ h => h) (hK21 _ _ ⟨.inr (by repeat' first | exact subH_nil | refine subH_same rfl ?_ | (refine subH_blk rfl (by repeat' first | exact sub_nil | refine sub_cons rfl ?_) ?_)), ⟨.inr (by repeat' first | exact subH_nil | refine subH_same rfl ?_ | (refine subH_blk rfl (by repeat' first | exact sub_nil | refine sub_cons rfl ?_) ?_)), ⟨.inl (by kernel_rfl), ⟨.inr (by repeat' first | exact subH_nil | refine subH_same rfl ?_ | (refine subH_blk rfl (by repeat' first | exact sub_nil | refine sub_cons rfl ?_) ?_)), trivial⟩⟩⟩⟩ ?_))
      clear hK21
      refine aq_r 10 999 rfl (by kernel_rfl) (by kernel_rfl) (by kernel_rfl) (.head _) (by kernel_rfl) (by kernel_rfl) rfl (r_fa (o' := 0) rfl fl99_0 rfl) ?_
      refine aq_one (i := 9) (by kernel_rfl) rfl fun K22 hK22 => ?_
      refine ol_append1 (id := 9) (id2 := 32) rfl rfl rfl rfl rfl rw22 (by omega) rfl fun a33 c33 => ?_
      refine ol_nil (to_k0 (fun _ _ h => h) (hK22 _ _ ⟨.inr (by repeat' first | exact subH_nil | refine subH_same rfl ?_ | (refine subH_blk rfl (by repeat' first | exact sub_nil | refine sub_cons rfl ?_) ?_)), ⟨.inr (by repeat' first | exact subH_nil | refine subH_same rfl ?_ | (refine subH_blk rfl (by repeat' first | exact sub_nil | refine sub_cons rfl ?_) ?_)), ⟨.inl (by kernel_rfl), ⟨.inl (by kernel_rfl), trivial⟩⟩⟩⟩ ?_))
      clear hK22
      refine aq_one (i := 11) (by kernel_rfl) rfl fun K23 hK23 => ?_
      refine ol_store (id := 3) rfl rfl rfl rfl sz22 rfl rfl (by first | decide | exact Nat.zero_lt_succ _ | simp) ?_
      refine ol_nil (to_k0 (fun _ _ h => h) (hK23 _ _ ⟨.inr (by repeat' first | exact subH_nil | refine subH_same rfl ?_ | (refine subH_blk rfl (by repeat' first | exact sub_nil | refine sub_cons rfl ?_) ?_)), ⟨.inl (by kernel_rfl), ⟨.inl (by kernel_rfl), ⟨.inl (by kernel_rfl), trivial⟩⟩⟩⟩ ?_))
      clear hK23
      refine aq_r 12 999 rfl (by kernel_rfl) (by kernel_rfl) (by kernel_rfl) (.head _) (by kernel_rfl) (by kernel_rfl) rfl (r_fa (o' := 1) rfl fl99_1 rfl) ?_
      refine aq_one (i := 13) (by kernel_rfl) rfl fun K24 hK24 => ?_
      refine ol_store (id := 3) rfl rfl rfl rfl sz22 rfl rfl (by first | decide | exact Nat.zero_lt_succ _ | simp) ?_
      refine ol_nil (to_k0 (fun _ _ h => h) (hK24 _ _ ⟨.inr (by repeat' first | exact subH_nil | refine subH_same rfl ?_ | (refine subH_blk rfl (by repeat' first | exact sub_nil | refine sub_cons rfl ?_) ?_)), ⟨.inl (by kernel_rfl), ⟨.inl (by kernel_rfl), ⟨.inl (by kernel_rfl), trivial⟩⟩⟩⟩ ?_))
      clear hK24
      refine aq_done (by kernel_rfl) ?_
      refine (to_k0 (fun _ _ h => h) (hK9 _ _ _ _ _ ?_))
      clear hK9
      refine wp_reg ?_
      refine ol_r (r_add rfl rfl (by omega)) rfl ?_
      refine ol_r (r_move rfl) rfl ?_
      refine ol_nil (to_k0 (fun _ _ h => h) (hK6 ((k + 1, _, _, _, _, _, _)) _ _ ?_ ?_ (sub_cons rfl (sub_cons rfl (sub_cons rfl sub_nil))) (sub_cons rfl (sub_cons rfl (sub_cons rfl (sub_cons rfl sub_nil)))) (by exact (subH_blk rfl (sub_cons rfl (sub_cons rfl sub_nil)) (subH_row rfl (by first | (dsimp only; first | (rw [runS_succ, encI_snoc, show pS xs (k + 1) = v by rw [pS_succ hx15, hv, pv_neg hc18]; omega]; done) | (rw [runS_succ, encI_snoc, show pS xs (k + 1) = v + x15 by rw [pS_succ hx15, hv, pv_nn hc18]]; done) | (rw [runU_succ, encI_snoc, show pU xs (k + 1) = u + 1 by rw [pU_succ hx15, hu, nv_neg hc18]]; done) | (rw [runU_succ, encI_snoc, show pU xs (k + 1) = u by rw [pU_succ hx15, hu, nv_nn hc18]; omega]; done); done) | (first | (rw [runS_succ, encI_snoc, show pS xs (k + 1) = v by rw [pS_succ hx15, hv, pv_neg hc18]; omega]; done) | (rw [runS_succ, encI_snoc, show pS xs (k + 1) = v + x15 by rw [pS_succ hx15, hv, pv_nn hc18]]; done) | (rw [runU_succ, encI_snoc, show pU xs (k + 1) = u + 1 by rw [pU_succ hx15, hu, nv_neg hc18]]; done) | (rw [runU_succ, encI_snoc, show pU xs (k + 1) = u by rw [pU_succ hx15, hu, nv_nn hc18]; omega]; done); done) | (dsimp only; done)) (subH_row rfl (by first | (dsimp only; first | (rw [runS_succ, encI_snoc, show pS xs (k + 1) = v by rw [pS_succ hx15, hv, pv_neg hc18]; omega]; done) | (rw [runS_succ, encI_snoc, show pS xs (k + 1) = v + x15 by rw [pS_succ hx15, hv, pv_nn hc18]]; done) | (rw [runU_succ, encI_snoc, show pU xs (k + 1) = u + 1 by rw [pU_succ hx15, hu, nv_neg hc18]]; done) | (rw [runU_succ, encI_snoc, show pU xs (k + 1) = u by rw [pU_succ hx15, hu, nv_nn hc18]; omega]; done); done) | (first | (rw [runS_succ, encI_snoc, show pS xs (k + 1) = v by rw [pS_succ hx15, hv, pv_neg hc18]; omega]; done) | (rw [runS_succ, encI_snoc, show pS xs (k + 1) = v + x15 by rw [pS_succ hx15, hv, pv_nn hc18]]; done) | (rw [runU_succ, encI_snoc, show pU xs (k + 1) = u + 1 by rw [pU_succ hx15, hu, nv_neg hc18]]; done) | (rw [runU_succ, encI_snoc, show pU xs (k + 1) = u by rw [pU_succ hx15, hu, nv_nn hc18]; omega]; done); done) | (dsimp only; done)) subH_nil)))) (subH_same rfl subH_nil)))
      ·try dsimp only
       first
         | exact ⟨by omega, by rw [pS_succ hx15, hv, pv_neg hc18]; omega, by rw [pU_succ hx15, hu, nv_neg hc18]⟩
         | exact ⟨by omega, by rw [pS_succ hx15, hv, pv_nn hc18], by rw [pU_succ hx15, hu, nv_nn hc18]; omega⟩
      ·try dsimp only
       omega
   ·refine wp_exit' (to_k0 (fun _ _ h => h) (hK4 _ _ _ _ _ ?_))
    clear hK4
    refine wp_seq' fun K25 hK25 => ?_
    refine wp_reg ?_
    refine ol_r (r_lda (id := 3) (n := 2) rfl rfl rfl ag99) rfl ?_
    refine ol_store (id := 2) rfl rfl rfl rfl sz99 rfl rfl (by first | decide | exact Nat.zero_lt_succ _ | simp) ?_
    refine ol_nil (to_k0 (fun _ _ h => h) (hK25 _ _ _ _ _ ?_))
    clear hK25
    refine hQ.ret (rvs1 (rv_c (id := 2) (n := 2) rfl rfl ag99 rfl)) (fun _ _ h => h) fun w hb hs hB hkd => ?_
    have hkn : k = xs.length := by omega
    subst hkn
    exact ⟨_, _, _, _, rfl, hb, hs.two 8 9 1001 1002 (by decide) rfl rfl (Ent.le_refl _) (Ent.le_refl _)⟩
theorem ref_window (a1 a2 : Option Addr) (m c1 c2 : Nat) (xs : List Int) (k f t : Nat) (w : World) (h1 : Rd encI w.heap.size w a1 m c1 (runS xs k)) (h2 : Rd encI w.heap.size w a2 m c2 (runU xs k)) (hm : m = k + 1) (hf : f ≤ k) (ht : t ≤ k) (hlen : xs.length ≤ 1000000) (hok : ∀ x ∈ xs, -1 ≤ x ∧ x ≤ 1000000000) :
    Calls Try.prog 73 #[.agg #[.slice a1 m c1, .slice a2 m c2], .int .i64 f, .int .i64 t] w fun e w' => e = .returned (.tuple #[.int .i64 (pS xs t - pS xs f), .bool (decide (pU xs t = pU xs f))]) ∧ Below w.heap.size w w' := by
  refine enterQ (N := 30) (C := fun _ => True) (H := []) (B := w.heap.size) (args := [_, _, _]) Try.func73 rfl rfl rfl (Nat.le_refl _) (Sat.nil _ _) fun Q hQ => ?_
  refine wp_seq' fun K1 hK1 => ?_
  refine wp_reg ?_
  refine ol_box 3 rfl rfl rfl fun b3 => ?_
  refine ol_r (r_assign rfl) rfl ?_
  refine ol_r (r_assign rfl) rfl ?_
  refine ol_nil (to_k0 (fun _ _ h => h) (hK1 _ _ _ _ _ ?_))
  clear hK1
  refine wp_seq' fun K2 hK2 => ?_
  refine wp_regq (by kernel_rfl) (by kernel_rfl) ?_
  refine ql_r (r_fa (o' := 0) rfl fl99_0 rfl) rfl ?_
  refine ql_r (r_ld (id := 3) rfl rfl rfl sc22) rfl ?_
  refine ql_r (r_move rfl) rfl ?_
  refine ql_ixr h1 rfl rfl sl22 (by omega) rfl fun x11 hx11 => ?_
  try simp only [Int.toNat_natCast] at hx11
  refine ql_r (r_ldw rfl (fun w1 hb1 hs1 hB1 => show Loads _ _ _ _ (.int .i64 x11) from Rd.loads h1 ty3 hx11 hb1)) rfl ?_
  refine ql_r (r_fa (o' := 0) rfl fl99_0 rfl) rfl ?_
  refine ql_r (r_ld (id := 3) rfl rfl rfl sc22) rfl ?_
  refine ql_r (r_move rfl) rfl ?_
  refine ql_ixr h1 rfl rfl sl22 (by omega) rfl fun x16 hx16 => ?_
  try simp only [Int.toNat_natCast] at hx16
  refine ql_r (r_ldw rfl (fun w1 hb1 hs1 hB1 => show Loads _ _ _ _ (.int .i64 x16) from Rd.loads h1 ty3 hx16 hb1)) rfl ?_
  have g1 := runS_get hx11
  have g2 := runS_get hx16
  have q1 := pS_bd hlen hok t
  have q2 := pS_bd hlen hok f
  subst g1
  subst g2
  refine ql_r (r_sub rfl rfl (by omega)) rfl ?_
  refine ql_r (r_fa (o' := 1) rfl fl99_1 rfl) rfl ?_
  refine ql_r (r_ld (id := 3) rfl rfl rfl sc22) rfl ?_
  refine ql_r (r_move rfl) rfl ?_
  refine ql_ixr h2 rfl rfl sl22 (by omega) rfl fun x22 hx22 => ?_
  try simp only [Int.toNat_natCast] at hx22
  refine ql_r (r_ldw rfl (fun w1 hb1 hs1 hB1 => show Loads _ _ _ _ (.int .i64 x22) from Rd.loads h2 ty3 hx22 hb1)) rfl ?_
  refine ql_r (r_fa (o' := 1) rfl fl99_1 rfl) rfl ?_
  refine ql_r (r_ld (id := 3) rfl rfl rfl sc22) rfl ?_
  refine ql_r (r_move rfl) rfl ?_
  refine ql_ixr h2 rfl rfl sl22 (by omega) rfl fun x27 hx27 => ?_
  try simp only [Int.toNat_natCast] at hx27
  refine ql_r (r_ldw rfl (fun w1 hb1 hs1 hB1 => show Loads _ _ _ _ (.int .i64 x27) from Rd.loads h2 ty3 hx27 hb1)) rfl ?_
  have g3 := runU_get hx22
  have g4 := runU_get hx27
  subst g3
  subst g4
  refine ql_r (r_eql rfl rfl) rfl ?_
  refine ql_r (r_assign rfl) rfl ?_
  refine ql_r (r_assign rfl) rfl ?_
  refine ql_nil (to_k0 (fun _ _ h => h) (hK2 _ _ _ _ _ ?_))
  clear hK2
  refine hQ.ret (rvs2 (rv_t rfl) (rv_t rfl)) (fun _ _ h => h) fun w hb hs hB hkd => ?_
  exact ⟨rfl, hb⟩
end Go.Proofs.Ytafkojlccknicaa
