/-
  TrackHillsAreHills: the walk of the law.
-/
import Derived.Test.YtlbcefnbjdpljaaHills2M
import Derived.Test.YtlbcefnbjdpljaaHills
import Derived.Test.YtlbcefnbjdpljaaIndexFn
namespace Go.Proofs.Ytlbcefnbjdpljaa
open Go Go.RowKit Hx
set_option linter.unusedVariables false
set_option linter.unusedSimpArgs false
set_option maxRecDepth 8000
theorem indexFunc_hill (a : Option Addr) (n c1 : Nat) (xs : List HillR) (g : FuncId) (cv : List Value) (p : HillR → Bool) (w : World) (hx : Rd encHill w.heap.size w a n c1 xs) (hg : Callable Try.prog g)
    (hf : ∀ x w', x ∈ xs → Below w.heap.size w w' → w.heap.size ≤ w'.heap.size → Calls Try.prog g ([encHill.val x] ++ cv).toArray w' fun e w2 => e = .returned (.bool (p x)) ∧ Below w'.heap.size w' w2) :
    Calls Try.prog 52 #[.slice a n c1, .func (.func g) #[] cv.toArray] w fun e w' => e = .returned (.int .i64 (idxP p xs)) ∧ Below w.heap.size w w' := by
  have hl := hx.len
  have hfit := hx.fit
  subst hl
  refine enterQ (N := 19) (C := fun _ => True) (H := []) (B := w.heap.size) (args := [_, _]) Try.func52 rfl rfl rfl (Nat.le_refl _) (Sat.nil _ _) fun Q hQ => ?_
  refine wp_seq' fun K1 hK1 => ?_
  refine wp_reg ?_
  refine ol_r (r_assign rfl) rfl ?_
  refine ol_nil (to_k0 (fun _ _ h => h) (hK1 _ _ _ _ _ ?_))
  clear hK1
  refine wp_seq' fun K2 hK2 => ?_
  refine wp_seq' fun K3 hK3 => ?_
  refine wp_reg ?_
  refine ol_r (r_move rfl) rfl ?_
  refine ol_r (r_len rfl sl44) rfl ?_
  refine ol_r (r_move rfl) rfl ?_
  refine ol_nil (to_k0 (fun _ _ h => h) (hK3 _ _ _ _ _ ?_))
  clear hK3
  refine wp_block' ?_
  apply wp_loopM (σ := Nat) (fun s => s ≤ xs.length ∧ ∀ y ∈ xs.take s, p y = false) (fun s => [(8, .int .i64 s)]) [(0, _), (1, _), (7, _)] (fun s => []) [] (fun s => xs.length - s) (0)
  · try dsimp only
    simp
  · exact (sub_cons rfl sub_nil)
  · exact (sub_cons rfl (sub_cons rfl (sub_cons rfl sub_nil)))
  · exact subH_nil
  · exact subH_nil
  · rintro k ⟨hk, hP⟩
    intro K4 hK4
    refine wp_seq' fun K5 hK5 => ?_
    refine wp_reg ?_
    refine ol_r (r_lss rfl rfl) rfl ?_
    refine ol_nil (to_k0 (fun _ _ h => h) (hK5 _ _ _ _ _ ?_))
    clear hK5
    refine wp_seq' fun K6 hK6 => ?_
    first | refine wp_condD rfl (fun hc9 => ?_) (fun hc9 => ?_) | refine wp_condN rfl (fun hc9 => ?_) (fun hc9 => ?_) | refine wp_condNB rfl (fun hc9 => ?_) (fun hc9 => ?_) | refine wp_cond' rfl (fun hc9 => ?_) (fun hc9 => ?_)
    · refine wp_skip' (to_k0 (fun _ _ h => h) (hK6 _ _ _ _ _ ?_))
      clear hK6
      refine wp_seq' fun K7 hK7 => ?_
      refine wp_block' ?_
      refine wp_seq' fun K8 hK8 => ?_
      refine wp_reg ?_
      refine ol_r (r_move rfl) rfl ?_
      refine ol_r (r_assign rfl) rfl ?_
      refine ol_nil (to_k0 (fun _ _ h => h) (hK8 _ _ _ _ _ ?_))
      clear hK8
      refine wp_seq' fun K9 hK9 => ?_
      refine wp_reg ?_
      refine ol_r (r_move rfl) rfl ?_
      refine ol_r (r_move rfl) rfl ?_
      refine ol_r (r_move rfl) rfl ?_
      refine ol_ixr hx rfl rfl sl44 (by omega) rfl fun x14 hx14 => ?_
      try simp only [Int.toNat_natCast] at hx14
      refine ol_r (r_ldw rfl (fun w1 hb1 hs1 hB1 => Rd.loads hx ty49 hx14 hb1)) rfl ?_
      refine ol_call rfl rfl hg rfl (fun w1 hb1 hs1 hB1 => Calls.mono (hf _ _ (List.mem_of_getElem? hx14) hb1 hB1) ?_)
      rintro e w2 ⟨rfl, hb2⟩
      refine After.below rfl hb1 hs1 hB1 hb2 ?_
      clear hb2 hB1 hs1 hb1 w2 w1
      refine ol_nil (to_k0 (fun _ _ h => h) (hK9 _ _ _ _ _ ?_))
      clear hK9
      first | refine wp_condD rfl (fun hc16 => ?_) (fun hc16 => ?_) | refine wp_condN rfl (fun hc16 => ?_) (fun hc16 => ?_) | refine wp_condNB rfl (fun hc16 => ?_) (fun hc16 => ?_) | refine wp_cond' rfl (fun hc16 => ?_) (fun hc16 => ?_)
      · refine wp_seq' fun K10 hK10 => ?_
        refine wp_reg ?_
        refine ol_r (r_move rfl) rfl ?_
        refine ol_r (r_assign rfl) rfl ?_
        refine ol_nil (to_k0 (fun _ _ h => h) (hK10 _ _ _ _ _ ?_))
        clear hK10
        refine hQ.ret (rvs1 (rv_t rfl)) (fun _ _ h => h) fun w hb hs hB hkd => ?_
        exact ⟨by rw [idxP_at hx14 hc16 hP], hb⟩
      · refine wp_skip' (to_k0 (fun _ _ h => h) (hK7 _ _ _ _ _ ?_))
        clear hK7
        refine wp_reg ?_
        refine ol_r (r_add rfl rfl (by omega)) rfl ?_
        refine ol_r (r_move rfl) rfl ?_
        refine ol_nil (to_k0 (fun _ _ h => h) (hK4 (k + 1) _ _ ?_ ?_ (sub_cons rfl sub_nil) (sub_cons rfl (sub_cons rfl (sub_cons rfl sub_nil))) (by exact subH_nil) subH_nil))
        · try dsimp only
          refine ⟨by omega, fun y hy => ?_⟩
          rw [take_succ_get hx14] at hy
          rcases List.mem_append.1 hy with h | h
          · exact hP y h
          · simp at h; subst h; exact hc16
        · try dsimp only
          omega
    · refine wp_exit' (to_k0 (fun _ _ h => h) (hK2 _ _ _ _ _ ?_))
      clear hK2
      refine wp_seq' fun K11 hK11 => ?_
      refine wp_reg ?_
      refine ol_r (r_assign rfl) rfl ?_
      refine ol_nil (to_k0 (fun _ _ h => h) (hK11 _ _ _ _ _ ?_))
      clear hK11
      refine hQ.ret (rvs1 (rv_t rfl)) (fun _ _ h => h) fun w hb hs hB hkd => ?_
      rw [List.take_of_length_le (by omega)] at hP
      exact ⟨by rw [idxP_no hP], hb⟩
theorem containsFunc_hill (a : Option Addr) (n c1 : Nat) (xs : List HillR) (g : FuncId) (cv : List Value) (p : HillR → Bool) (w : World) (hx : Rd encHill w.heap.size w a n c1 xs) (hg : Callable Try.prog g)
    (hf : ∀ x w', x ∈ xs → Below w.heap.size w w' → w.heap.size ≤ w'.heap.size → Calls Try.prog g ([encHill.val x] ++ cv).toArray w' fun e w2 => e = .returned (.bool (p x)) ∧ Below w'.heap.size w' w2) :
    Calls Try.prog 24 #[.slice a n c1, .func (.func g) #[] cv.toArray] w fun e w' => e = .returned (.bool (xs.any p)) ∧ Below w.heap.size w w' := by
  refine enterQ (N := 9) (C := fun _ => True) (H := []) (B := w.heap.size) (args := [_, _]) Try.func24 rfl rfl rfl (Nat.le_refl _) (Sat.nil _ _) fun Q hQ => ?_
  refine wp_seq' fun K1 hK1 => ?_
  refine wp_reg ?_
  refine ol_r (r_assign rfl) rfl ?_
  refine ol_nil (to_k0 (fun _ _ h => h) (hK1 _ _ _ _ _ ?_))
  clear hK1
  refine wp_seq' fun K2 hK2 => ?_
  refine wp_reg ?_
  refine ol_r (r_move rfl) rfl ?_
  refine ol_r (r_move rfl) rfl ?_
  refine ol_call rfl rfl cb52 rfl (fun w1 hb1 hs1 hB1 => Calls.mono (indexFunc_hill _ _ _ xs g cv p _ (hx.at hb1 hB1) hg (fun x w' hm h1 h2 => hf x w' hm ((hb1.trans (h1.mono hB1))) (Nat.le_trans hB1 h2))) ?_)
  rintro e w2 ⟨rfl, hb2⟩
  refine After.below rfl hb1 hs1 hB1 hb2 ?_
  clear hb2 hB1 hs1 hb1 w2 w1
  refine ol_r (r_geq rfl rfl) rfl ?_
  refine ol_r (r_assign rfl) rfl ?_
  refine ol_nil (to_k0 (fun _ _ h => h) (hK2 _ _ _ _ _ ?_))
  clear hK2
  refine hQ.ret (rvs1 (rv_t rfl)) (fun _ _ h => h) fun w hb hs hB hkd => ?_
  exact ⟨by rw [idxP_any], hb⟩
theorem law3_cover (x : HillR) (f g : Int) (b1 b2 : Nat) (w : World) (h1 : Blk w.heap.size w b1 [(0, .int .i64 f)]) (h2 : Blk w.heap.size w b2 [(0, .int .i64 g)]) :
    Calls Try.prog 25 ([encHill.val x] ++ [Value.pointer (some ⟨b1, 0, none⟩), Value.pointer (some ⟨b2, 0, none⟩)]).toArray w fun e w' => e = .returned (.bool (decide (x.from_ ≤ f) && decide (g ≤ x.to))) ∧ Below w.heap.size w w' := by
  refine enterQ (N := 15) (C := fun _ => True) (H := []) (B := w.heap.size) (args := [_, _, _]) Try.func25 rfl rfl rfl (Nat.le_refl _) (Sat.nil _ _) fun Q hQ => ?_
  refine wp_seq' fun K1 hK1 => ?_
  refine wp_reg ?_
  refine ol_box 3 rfl rfl rfl fun b3 => ?_
  refine ol_r (r_assign rfl) rfl ?_
  refine ol_nil (to_k0 (fun _ _ h => h) (hK1 _ _ _ _ _ ?_))
  clear hK1
  refine wp_seq' fun K2 hK2 => ?_
  refine wp_reg ?_
  refine ol_r (r_fa (o' := 0) rfl fl49_0 rfl) rfl ?_
  refine ol_r (r_ld (id := 3) rfl rfl rfl sc3) rfl ?_
  refine ol_r (r_ldw rfl (fun w1 hb1 hs1 hB1 => Blk.loads (o := 0) h1 hb1 sc3 rfl)) rfl ?_
  refine ol_r (r_leq rfl rfl) rfl ?_
  refine ol_r (r_move rfl) rfl ?_
  refine ol_split (d := 9) rfl (fun hs9 => ?_) (fun hs9 => ?_)
  · have phs9 := hs9; try simp only [decide_eq_true_eq, decide_eq_false_iff_not, Bool.not_eq_true', Bool.not_eq_false', Bool.not_true, Bool.not_false] at phs9
    refine ol_g rfl rfl hs9 ?_
    refine ol_r (r_ldw rfl (fun w1 hb1 hs1 hB1 => Blk.loads (o := 0) h2 hb1 sc3 rfl)) rfl ?_
    refine ol_g rfl rfl hs9 ?_
    refine ol_r (r_fa (o' := 1) rfl fl49_1 rfl) rfl ?_
    refine ol_g rfl rfl hs9 ?_
    refine ol_r (r_ld (id := 3) rfl rfl rfl sc3) rfl ?_
    refine ol_g rfl rfl hs9 ?_
    refine ol_r (r_leq rfl rfl) rfl ?_
    refine ol_r (r_pickT rfl hs9 rfl) rfl ?_
    refine ol_r (r_assign rfl) rfl ?_
    refine ol_nil (to_k0 (fun _ _ h => h) (hK2 _ _ _ _ _ ?_))
    clear hK2
    refine hQ.ret (rvs1 (rv_t rfl)) (fun _ _ h => h) fun w hb hs hB hkd => ?_
    exact ⟨by rw [show decide (x.from_ ≤ f) = true from hs9]; rfl, hb⟩
  · have phs9 := hs9; try simp only [decide_eq_true_eq, decide_eq_false_iff_not, Bool.not_eq_true', Bool.not_eq_false', Bool.not_true, Bool.not_false] at phs9
    refine ol_s rfl rfl hs9 rfl ?_
    refine ol_s rfl rfl hs9 rfl ?_
    refine ol_s rfl rfl hs9 rfl ?_
    refine ol_s rfl rfl hs9 rfl ?_
    refine ol_r (r_pickF rfl hs9 rfl) rfl ?_
    refine ol_r (r_assign rfl) rfl ?_
    refine ol_nil (to_k0 (fun _ _ h => h) (hK2 _ _ _ _ _ ?_))
    clear hK2
    refine hQ.ret (rvs1 (rv_t rfl)) (fun _ _ h => h) fun w hb hs hB hkd => ?_
    exact ⟨by rw [show decide (x.from_ ≤ f) = false from hs9]; rfl, hb⟩
theorem law3_isHill (a : Option Addr) (n c : Nat) (ss : List SmpR) (f t : Nat) (least dip : Int) (w : World) (hl : Rd encSmp w.heap.size w a n c ss) (hft : f ≤ t) (ht : t < ss.length) (hz : ∀ x ∈ ss, -100000 ≤ x.z ∧ x.z ≤ 100000) :
    Calls Try.prog 23 #[.slice a n c, .int .i64 f, .int .i64 t, .int .i64 least, .int .i64 dip] w fun e w' => e = .returned (.bool (hillB ss f t least dip)) ∧ Below w.heap.size w w' := by
  have hn := hl.len
  have hfit := hl.fit
  refine enterQ (N := 75) (C := fun _ => True) (H := []) (B := w.heap.size) (args := [_, _, _, _, _]) Try.func23 rfl rfl rfl (Nat.le_refl _) (Sat.nil _ _) fun Q hQ => ?_
  refine wp_seq' fun K1 hK1 => ?_
  refine wp_reg ?_
  refine ol_r (r_assign rfl) rfl ?_
  refine ol_nil (to_k0 (fun _ _ h => h) (hK1 _ _ _ _ _ ?_))
  clear hK1
  refine wp_seq' fun K2 hK2 => ?_
  refine wp_seq' fun K3 hK3 => ?_
  refine wp_reg ?_
  refine ol_r (r_move rfl) rfl ?_
  refine ol_r (r_assign rfl) rfl ?_
  refine ol_nil (to_k0 (fun _ _ h => h) (hK3 _ _ _ _ _ ?_))
  clear hK3
  refine wp_block' ?_
  apply wp_loopM (σ := Nat) (fun s => f ≤ s ∧ s ≤ t + 1 ∧ ∀ j, f ≤ j → j < s → zAt ss f ≤ zAt ss j ∧ zAt ss j ≤ zAt ss t ∧ ∀ k, j ≤ k → k ≤ t → zAt ss j - zAt ss k ≤ dip) (fun s => [(11, .int .i64 s)]) [(0, _), (1, _), (2, _), (3, _), (4, _)] (fun s => []) [] (fun s => t + 1 - s) (f)
  · try dsimp only
    exact ⟨Nat.le_refl _, by omega, fun j a b => by omega⟩
  · exact (sub_cons rfl sub_nil)
  · exact (sub_cons rfl (sub_cons rfl (sub_cons rfl (sub_cons rfl (sub_cons rfl sub_nil)))))
  · exact subH_nil
  · exact subH_nil
  · rintro i ⟨hi1, hi2, hP⟩
    intro K4 hK4
    refine wp_seq' fun K5 hK5 => ?_
    refine wp_seq' fun K6 hK6 => ?_
    refine wp_reg ?_
    refine ol_r (r_move rfl) rfl ?_
    refine ol_r (r_move rfl) rfl ?_
    refine ol_r (r_leq rfl rfl) rfl ?_
    refine ol_nil (to_k0 (fun _ _ h => h) (hK6 _ _ _ _ _ ?_))
    clear hK6
    first | refine wp_condD rfl (fun hc16 => ?_) (fun hc16 => ?_) | refine wp_condN rfl (fun hc16 => ?_) (fun hc16 => ?_) | refine wp_condNB rfl (fun hc16 => ?_) (fun hc16 => ?_) | refine wp_cond' rfl (fun hc16 => ?_) (fun hc16 => ?_)
    · refine wp_skip' (to_k0 (fun _ _ h => h) (hK5 _ _ _ _ _ ?_))
      clear hK5
      refine wp_seq' fun K7 hK7 => ?_
      refine wp_block' ?_
      refine wp_seq' fun K8 hK8 => ?_
      refine wp_seq' fun K9 hK9 => ?_
      refine wp_regq (by kernel_rfl) (by kernel_rfl) ?_
      refine ql_r (r_move rfl) rfl ?_
      refine ql_r (r_move rfl) rfl ?_
      refine ql_ixr hl rfl rfl sl22 (by omega) rfl fun x21 hx21 => ?_
      try simp only [Int.toNat_natCast] at hx21
      refine ql_r (r_faw rfl (ix_some hl (by omega)) fl36_3) rfl ?_
      refine ql_r (r_ldw rfl (fun w1 hb1 hs1 hB1 => Rd.loadsF (o := 3) hl sc3 hx21 hb1 rfl)) rfl ?_
      refine ql_r (r_move rfl) rfl ?_
      refine ql_r (r_move rfl) rfl ?_
      refine ql_ixr hl rfl rfl sl22 (by omega) rfl fun x26 hx26 => ?_
      try simp only [Int.toNat_natCast] at hx26
      refine ql_r (r_faw rfl (ix_some hl (by omega)) fl36_3) rfl ?_
      refine ql_r (r_ldw rfl (fun w1 hb1 hs1 hB1 => Rd.loadsF (o := 3) hl sc3 hx26 hb1 rfl)) rfl ?_
      refine ql_r (r_lss rfl rfl) rfl ?_
      refine ql_r (r_move rfl) rfl ?_
      refine ql_split (d := 30) rfl (fun hs30 => ?_) (fun hs30 => ?_)
      · have phs30 := hs30; try simp only [decide_eq_true_eq, decide_eq_false_iff_not, Bool.not_eq_true', Bool.not_eq_false', Bool.not_true, Bool.not_false] at phs30
        refine ql_s rfl rfl hs30 rfl ?_
        refine ql_s rfl rfl hs30 rfl ?_
        refine ql_s rfl rfl hs30 rfl ?_
        refine ql_s rfl rfl hs30 rfl ?_
        refine ql_s rfl rfl hs30 rfl ?_
        refine ql_s rfl rfl hs30 rfl ?_
        refine ql_s rfl rfl hs30 rfl ?_
        refine ql_s rfl rfl hs30 rfl ?_
        refine ql_s rfl rfl hs30 rfl ?_
        refine ql_s rfl rfl hs30 rfl ?_
        refine ql_s rfl rfl hs30 rfl ?_
        refine ql_r (r_pickT rfl hs30 rfl) rfl ?_
        refine ql_nil (to_k0 (fun _ _ h => h) (hK9 _ _ _ _ _ ?_))
        clear hK9
        refine wp_condT rfl ?_
        refine wp_seq' fun K10 hK10 => ?_
        refine wp_reg ?_
        refine ol_r (r_assign rfl) rfl ?_
        refine ol_nil (to_k0 (fun _ _ h => h) (hK10 _ _ _ _ _ ?_))
        clear hK10
        refine hQ.ret (rvs1 (rv_t rfl)) (fun _ _ h => h) fun w hb hs hB hkd => ?_
        first
          | (have z1 := zAt_eq hx51
             have z2 := zAt_eq hx56
             have hno : hillB ss f t least dip = false := by
               rw [← Bool.not_eq_true, hillB_iff]
               intro h
               have := (h.1 i (by omega) (by omega)).2.2 k (by omega) (by omega)
               omega
             exact ⟨by rw [hno], hb⟩)
          | (have z1 := zAt_eq hx33
             have z2 := zAt_eq hx38
             have hno : hillB ss f t least dip = false := by
               rw [← Bool.not_eq_true, hillB_iff]
               intro h
               have := (h.1 i (by omega) (by omega)).2.1
               omega
             exact ⟨by rw [hno], hb⟩)
          | (have z1 := zAt_eq hx21
             have z2 := zAt_eq hx26
             have hno : hillB ss f t least dip = false := by
               rw [← Bool.not_eq_true, hillB_iff]
               intro h
               have := (h.1 i (by omega) (by omega)).1
               omega
             exact ⟨by rw [hno], hb⟩)
          | (have z1 := zAt_eq hx64
             have z2 := zAt_eq hx69
             have hall : hillB ss f t least dip = decide (least ≤ x64.z - x69.z) := by
               rw [Bool.eq_iff_iff, hillB_iff, decide_eq_true_eq]
               exact ⟨fun h => by have := h.2; omega, fun h => ⟨fun j a b => hP j a (by omega), by omega⟩⟩
             exact ⟨by rw [hall], hb⟩)
      · have phs30 := hs30; try simp only [decide_eq_true_eq, decide_eq_false_iff_not, Bool.not_eq_true', Bool.not_eq_false', Bool.not_true, Bool.not_false] at phs30
        refine ql_g rfl rfl hs30 ?_
        refine ql_r (r_move rfl) rfl ?_
        refine ql_g rfl rfl hs30 ?_
        refine ql_r (r_move rfl) rfl ?_
        refine ql_g rfl rfl hs30 ?_
        refine ql_ixr hl rfl rfl sl22 (by omega) rfl fun x33 hx33 => ?_
        try simp only [Int.toNat_natCast] at hx33
        refine ql_g rfl rfl hs30 ?_
        refine ql_r (r_faw rfl (ix_some hl (by omega)) fl36_3) rfl ?_
        refine ql_g rfl rfl hs30 ?_
        refine ql_r (r_ldw rfl (fun w1 hb1 hs1 hB1 => Rd.loadsF (o := 3) hl sc3 hx33 hb1 rfl)) rfl ?_
        refine ql_g rfl rfl hs30 ?_
        refine ql_r (r_move rfl) rfl ?_
        refine ql_g rfl rfl hs30 ?_
        refine ql_r (r_move rfl) rfl ?_
        refine ql_g rfl rfl hs30 ?_
        refine ql_ixr hl rfl rfl sl22 (by omega) rfl fun x38 hx38 => ?_
        try simp only [Int.toNat_natCast] at hx38
        refine ql_g rfl rfl hs30 ?_
        refine ql_r (r_faw rfl (ix_some hl (by omega)) fl36_3) rfl ?_
        refine ql_g rfl rfl hs30 ?_
        refine ql_r (r_ldw rfl (fun w1 hb1 hs1 hB1 => Rd.loadsF (o := 3) hl sc3 hx38 hb1 rfl)) rfl ?_
        refine ql_g rfl rfl hs30 ?_
        refine ql_r (r_gtr rfl rfl) rfl ?_
        refine ql_r (r_pickF rfl hs30 rfl) rfl ?_
        refine ql_nil (to_k0 (fun _ _ h => h) (hK9 _ _ _ _ _ ?_))
        clear hK9
        first | refine wp_condD rfl (fun hc42 => ?_) (fun hc42 => ?_) | refine wp_condN rfl (fun hc42 => ?_) (fun hc42 => ?_) | refine wp_condNB rfl (fun hc42 => ?_) (fun hc42 => ?_) | refine wp_cond' rfl (fun hc42 => ?_) (fun hc42 => ?_)
        · refine wp_seq' fun K11 hK11 => ?_
          refine wp_reg ?_
          refine ol_r (r_assign rfl) rfl ?_
          refine ol_nil (to_k0 (fun _ _ h => h) (hK11 _ _ _ _ _ ?_))
          clear hK11
          refine hQ.ret (rvs1 (rv_t rfl)) (fun _ _ h => h) fun w hb hs hB hkd => ?_
          first
            | (have z1 := zAt_eq hx51
               have z2 := zAt_eq hx56
               have hno : hillB ss f t least dip = false := by
                 rw [← Bool.not_eq_true, hillB_iff]
                 intro h
                 have := (h.1 i (by omega) (by omega)).2.2 k (by omega) (by omega)
                 omega
               exact ⟨by rw [hno], hb⟩)
            | (have z1 := zAt_eq hx33
               have z2 := zAt_eq hx38
               have hno : hillB ss f t least dip = false := by
                 rw [← Bool.not_eq_true, hillB_iff]
                 intro h
                 have := (h.1 i (by omega) (by omega)).2.1
                 omega
               exact ⟨by rw [hno], hb⟩)
            | (have z1 := zAt_eq hx21
               have z2 := zAt_eq hx26
               have hno : hillB ss f t least dip = false := by
                 rw [← Bool.not_eq_true, hillB_iff]
                 intro h
                 have := (h.1 i (by omega) (by omega)).1
                 omega
               exact ⟨by rw [hno], hb⟩)
            | (have z1 := zAt_eq hx64
               have z2 := zAt_eq hx69
               have hall : hillB ss f t least dip = decide (least ≤ x64.z - x69.z) := by
                 rw [Bool.eq_iff_iff, hillB_iff, decide_eq_true_eq]
                 exact ⟨fun h => by have := h.2; omega, fun h => ⟨fun j a b => hP j a (by omega), by omega⟩⟩
               exact ⟨by rw [hall], hb⟩)
        · refine wp_skip' (to_k0 (fun _ _ h => h) (hK8 _ _ _ _ _ ?_))
          clear hK8
          refine wp_seq' fun K12 hK12 => ?_
          refine wp_reg ?_
          refine ol_r (r_move rfl) rfl ?_
          refine ol_r (r_assign rfl) rfl ?_
          refine ol_nil (to_k0 (fun _ _ h => h) (hK12 _ _ _ _ _ ?_))
          clear hK12
          refine wp_block' ?_
          apply wp_loopM (σ := Nat) (fun s => i ≤ s ∧ s ≤ t + 1 ∧ ∀ j, i ≤ j → j < s → zAt ss i - zAt ss j ≤ dip) (fun s => [(12, .int .i64 s)]) [(0, _), (1, _), (2, _), (3, _), (4, _), (11, _)] (fun s => []) [] (fun s => t + 1 - s) (i)
          · try dsimp only
            exact ⟨Nat.le_refl _, by omega, fun j a b => by omega⟩
          · exact (sub_cons rfl sub_nil)
          · exact (sub_cons rfl (sub_cons rfl (sub_cons rfl (sub_cons rfl (sub_cons rfl (sub_cons rfl sub_nil))))))
          · exact subH_nil
          · exact subH_nil
          · rintro k ⟨hk1, hk2, hR⟩
            intro K13 hK13
            refine wp_seq' fun K14 hK14 => ?_
            refine wp_seq' fun K15 hK15 => ?_
            refine wp_reg ?_
            refine ol_r (r_move rfl) rfl ?_
            refine ol_r (r_move rfl) rfl ?_
            refine ol_r (r_leq rfl rfl) rfl ?_
            refine ol_nil (to_k0 (fun _ _ h => h) (hK15 _ _ _ _ _ ?_))
            clear hK15
            first | refine wp_condD rfl (fun hc46 => ?_) (fun hc46 => ?_) | refine wp_condN rfl (fun hc46 => ?_) (fun hc46 => ?_) | refine wp_condNB rfl (fun hc46 => ?_) (fun hc46 => ?_) | refine wp_cond' rfl (fun hc46 => ?_) (fun hc46 => ?_)
            · refine wp_skip' (to_k0 (fun _ _ h => h) (hK14 _ _ _ _ _ ?_))
              clear hK14
              refine wp_seq' fun K16 hK16 => ?_
              refine wp_block' ?_
              refine wp_seq' fun K17 hK17 => ?_
              refine wp_regq (by kernel_rfl) (by kernel_rfl) ?_
              refine ql_r (r_move rfl) rfl ?_
              refine ql_r (r_move rfl) rfl ?_
              refine ql_ixr hl rfl rfl sl22 (by omega) rfl fun x51 hx51 => ?_
              try simp only [Int.toNat_natCast] at hx51
              refine ql_r (r_faw rfl (ix_some hl (by omega)) fl36_3) rfl ?_
              refine ql_r (r_ldw rfl (fun w1 hb1 hs1 hB1 => Rd.loadsF (o := 3) hl sc3 hx51 hb1 rfl)) rfl ?_
              refine ql_r (r_move rfl) rfl ?_
              refine ql_r (r_move rfl) rfl ?_
              refine ql_ixr hl rfl rfl sl22 (by omega) rfl fun x56 hx56 => ?_
              try simp only [Int.toNat_natCast] at hx56
              refine ql_r (r_faw rfl (ix_some hl (by omega)) fl36_3) rfl ?_
              refine ql_r (r_ldw rfl (fun w1 hb1 hs1 hB1 => Rd.loadsF (o := 3) hl sc3 hx56 hb1 rfl)) rfl ?_
              have z1 := hz _ (List.mem_of_getElem? hx51)
              have z2 := hz _ (List.mem_of_getElem? hx56)
              refine ql_r (r_sub rfl rfl (by omega)) rfl ?_
              refine ql_r (r_move rfl) rfl ?_
              refine ql_r (r_gtr rfl rfl) rfl ?_
              refine ql_nil (to_k0 (fun _ _ h => h) (hK17 _ _ _ _ _ ?_))
              clear hK17
              first | refine wp_condD rfl (fun hc61 => ?_) (fun hc61 => ?_) | refine wp_condN rfl (fun hc61 => ?_) (fun hc61 => ?_) | refine wp_condNB rfl (fun hc61 => ?_) (fun hc61 => ?_) | refine wp_cond' rfl (fun hc61 => ?_) (fun hc61 => ?_)
              · refine wp_seq' fun K18 hK18 => ?_
                refine wp_reg ?_
                refine ol_r (r_assign rfl) rfl ?_
                refine ol_nil (to_k0 (fun _ _ h => h) (hK18 _ _ _ _ _ ?_))
                clear hK18
                refine hQ.ret (rvs1 (rv_t rfl)) (fun _ _ h => h) fun w hb hs hB hkd => ?_
                first
                  | (have z1 := zAt_eq hx51
                     have z2 := zAt_eq hx56
                     have hno : hillB ss f t least dip = false := by
                       rw [← Bool.not_eq_true, hillB_iff]
                       intro h
                       have := (h.1 i (by omega) (by omega)).2.2 k (by omega) (by omega)
                       omega
                     exact ⟨by rw [hno], hb⟩)
                  | (have z1 := zAt_eq hx33
                     have z2 := zAt_eq hx38
                     have hno : hillB ss f t least dip = false := by
                       rw [← Bool.not_eq_true, hillB_iff]
                       intro h
                       have := (h.1 i (by omega) (by omega)).2.1
                       omega
                     exact ⟨by rw [hno], hb⟩)
                  | (have z1 := zAt_eq hx21
                     have z2 := zAt_eq hx26
                     have hno : hillB ss f t least dip = false := by
                       rw [← Bool.not_eq_true, hillB_iff]
                       intro h
                       have := (h.1 i (by omega) (by omega)).1
                       omega
                     exact ⟨by rw [hno], hb⟩)
                  | (have z1 := zAt_eq hx64
                     have z2 := zAt_eq hx69
                     have hall : hillB ss f t least dip = decide (least ≤ x64.z - x69.z) := by
                       rw [Bool.eq_iff_iff, hillB_iff, decide_eq_true_eq]
                       exact ⟨fun h => by have := h.2; omega, fun h => ⟨fun j a b => hP j a (by omega), by omega⟩⟩
                     exact ⟨by rw [hall], hb⟩)
              · refine wp_skip' (to_k0 (fun _ _ h => h) (hK16 _ _ _ _ _ ?_))
                clear hK16
                refine wp_reg ?_
                refine ol_r (r_move rfl) rfl ?_
                refine ol_r (r_add rfl rfl (by omega)) rfl ?_
                refine ol_r (r_assign rfl) rfl ?_
                refine ol_nil (to_k0 (fun _ _ h => h) (hK13 (k + 1) _ _ ?_ ?_ (sub_cons rfl sub_nil) (sub_cons rfl (sub_cons rfl (sub_cons rfl (sub_cons rfl (sub_cons rfl (sub_cons rfl sub_nil)))))) (by exact subH_nil) subH_nil))
                · try dsimp only
                  refine ⟨by omega, by omega, fun j a b => ?_⟩
                  by_cases hj : j < k
                  · exact hR j a hj
                  · have hji : j = k := by omega
                    subst hji
                    have z1 := zAt_eq hx51
                    have z2 := zAt_eq hx56
                    omega
                · try dsimp only
                  omega
            · refine wp_exit' (to_k0 (fun _ _ h => h) (hK7 _ _ _ _ _ ?_))
              clear hK7
              refine wp_reg ?_
              refine ol_r (r_move rfl) rfl ?_
              refine ol_r (r_add rfl rfl (by omega)) rfl ?_
              refine ol_r (r_assign rfl) rfl ?_
              refine ol_nil (to_k0 (fun _ _ h => h) (hK4 (i + 1) _ _ ?_ ?_ (sub_cons rfl sub_nil) (sub_cons rfl (sub_cons rfl (sub_cons rfl (sub_cons rfl (sub_cons rfl sub_nil))))) (by exact subH_nil) subH_nil))
              · try dsimp only
                refine ⟨by omega, by omega, fun j a b => ?_⟩
                by_cases hj : j < i
                · exact hP j a hj
                · have hji : j = i := by omega
                  subst hji
                  have z1 := zAt_eq hx21
                  have z2 := zAt_eq hx26
                  have z3 := zAt_eq hx33
                  have z4 := zAt_eq hx38
                  exact ⟨by omega, by omega, fun k c d => hR k c (by omega)⟩
              · try dsimp only
                omega
    · refine wp_exit' (to_k0 (fun _ _ h => h) (hK2 _ _ _ _ _ ?_))
      clear hK2
      refine wp_seq' fun K19 hK19 => ?_
      refine wp_regq (by kernel_rfl) (by kernel_rfl) ?_
      refine ql_r (r_move rfl) rfl ?_
      refine ql_r (r_move rfl) rfl ?_
      refine ql_ixr hl rfl rfl sl22 (by omega) rfl fun x64 hx64 => ?_
      try simp only [Int.toNat_natCast] at hx64
      refine ql_r (r_faw rfl (ix_some hl (by omega)) fl36_3) rfl ?_
      refine ql_r (r_ldw rfl (fun w1 hb1 hs1 hB1 => Rd.loadsF (o := 3) hl sc3 hx64 hb1 rfl)) rfl ?_
      refine ql_r (r_move rfl) rfl ?_
      refine ql_r (r_move rfl) rfl ?_
      refine ql_ixr hl rfl rfl sl22 (by omega) rfl fun x69 hx69 => ?_
      try simp only [Int.toNat_natCast] at hx69
      refine ql_r (r_faw rfl (ix_some hl (by omega)) fl36_3) rfl ?_
      refine ql_r (r_ldw rfl (fun w1 hb1 hs1 hB1 => Rd.loadsF (o := 3) hl sc3 hx69 hb1 rfl)) rfl ?_
      have z1 := hz _ (List.mem_of_getElem? hx64)
      have z2 := hz _ (List.mem_of_getElem? hx69)
      refine ql_r (r_sub rfl rfl (by omega)) rfl ?_
      refine ql_r (r_move rfl) rfl ?_
      refine ql_r (r_geq rfl rfl) rfl ?_
      refine ql_r (r_assign rfl) rfl ?_
      refine ql_nil (to_k0 (fun _ _ h => h) (hK19 _ _ _ _ _ ?_))
      clear hK19
      refine hQ.ret (rvs1 (rv_t rfl)) (fun _ _ h => h) fun w hb hs hB hkd => ?_
      first
        | (have z1 := zAt_eq hx51
           have z2 := zAt_eq hx56
           have hno : hillB ss f t least dip = false := by
             rw [← Bool.not_eq_true, hillB_iff]
             intro h
             have := (h.1 i (by omega) (by omega)).2.2 k (by omega) (by omega)
             omega
           exact ⟨by rw [hno], hb⟩)
        | (have z1 := zAt_eq hx33
           have z2 := zAt_eq hx38
           have hno : hillB ss f t least dip = false := by
             rw [← Bool.not_eq_true, hillB_iff]
             intro h
             have := (h.1 i (by omega) (by omega)).2.1
             omega
           exact ⟨by rw [hno], hb⟩)
        | (have z1 := zAt_eq hx21
           have z2 := zAt_eq hx26
           have hno : hillB ss f t least dip = false := by
             rw [← Bool.not_eq_true, hillB_iff]
             intro h
             have := (h.1 i (by omega) (by omega)).1
             omega
           exact ⟨by rw [hno], hb⟩)
        | (have z1 := zAt_eq hx64
           have z2 := zAt_eq hx69
           have hall : hillB ss f t least dip = decide (least ≤ x64.z - x69.z) := by
             rw [Bool.eq_iff_iff, hillB_iff, decide_eq_true_eq]
             exact ⟨fun h => by have := h.2; omega, fun h => ⟨fun j a b => hP j a (by omega), by omega⟩⟩
           exact ⟨by rw [hall], hb⟩)
theorem law_areHills (A : ActV) (least dip f g : Int) (w : World) (hA : A.Ok w.heap.size w) :
    Calls Try.prog 7 #[.agg #[.string A.name, .int .i64 A.sport, .int .i64 A.start, .slice A.sa A.sn A.sc, .slice A.la A.ln A.lc, .slice A.ta A.tn A.tc], .int .i64 least, .int .i64 dip, .int .i64 f, .int .i64 g] w fun e w' => e = .returned (.bool true) ∧ Below w.heap.size w w' := by
  have hsn := hA.s.len
  have hsf := hA.s.fit
  refine enterQ (N := 128) (C := fun _ => True) (H := []) (B := w.heap.size) (args := [_, _, _, _, _]) Try.func7 rfl rfl rfl (Nat.le_refl _) (Sat.nil _ _) fun Q hQ => ?_
  refine wp_seq' fun K1 hK1 => ?_
  refine wp_reg ?_
  refine ol_box 5 rfl rfl rfl fun b5 => ?_
  refine ol_box 8 rfl rfl rfl fun b8 => ?_
  refine ol_box 9 rfl rfl rfl fun b9 => ?_
  refine ol_r (r_assign rfl) rfl ?_
  refine ol_nil (to_k0 (fun _ _ h => h) (hK1 _ _ _ _ _ ?_))
  clear hK1
  refine wp_seq' fun K2 hK2 => ?_
  refine wp_reg ?_
  refine ol_r (r_lda (id := 5) (n := 6) rfl rfl rfl ag26) rfl ?_
  refine ol_r (r_move rfl) rfl ?_
  refine ol_r (r_move rfl) rfl ?_
  refine ol_call rfl rfl cb20 rfl (fun w1 hb1 hs1 hB1 => Calls.mono (track_Hills A least dip _ (hA.at hb1 hB1)) ?_)
  rintro e w2 ⟨a19, n19, c19, rfl, hf19⟩
  refine After.fresh (id := 19) rfl hb1 hs1 hB1 hf19 ?_
  have hl19 := hf19.len; clear hf19 hB1 hs1 hb1 w2 w1
  refine ol_r (r_move rfl) rfl ?_
  refine ol_r (r_extract rfl rfl) rfl ?_
  refine ol_r (r_extract rfl rfl) rfl ?_
  refine ol_r (r_assign rfl) rfl ?_
  refine ol_r (r_assign rfl) rfl ?_
  refine ol_nil (to_k0 (fun _ _ h => h) (hK2 _ _ _ _ _ ?_))
  clear hK2
  refine wp_seq' fun K3 hK3 => ?_
  refine wp_seq' fun K4 hK4 => ?_
  refine wp_reg ?_
  refine ol_r (r_move rfl) rfl ?_
  refine ol_r (r_neq rfl rfl) rfl ?_
  refine ol_r (r_move rfl) rfl ?_
  refine ol_split (d := 24) rfl (fun hs24 => ?_) (fun hs24 => ?_)
  · have phs24 := hs24; try simp only [decide_eq_true_eq, decide_eq_false_iff_not, Bool.not_eq_true', Bool.not_eq_false', Bool.not_true, Bool.not_false] at phs24
    refine ol_s rfl rfl hs24 rfl ?_
    refine ol_s rfl rfl hs24 rfl ?_
    refine ol_s rfl rfl hs24 rfl ?_
    refine ol_s rfl rfl hs24 rfl ?_
    refine ol_r (r_pickT rfl hs24 rfl) rfl ?_
    refine ol_nil (to_k0 (fun _ _ h => h) (hK4 _ _ _ _ _ ?_))
    clear hK4
    refine wp_condT rfl ?_
    refine wp_seq' fun K5 hK5 => ?_
    refine wp_reg ?_
    refine ol_call rfl rfl cb14 rfl (fun w1 hb1 hs1 hB1 => Calls.mono (law3_told _) ?_)
    rintro e w2 ⟨rfl, hb2⟩
    refine After.below rfl hb1 hs1 hB1 hb2 ?_
    clear hb2 hB1 hs1 hb1 w2 w1
    refine ol_r (r_assign rfl) rfl ?_
    refine ol_nil (to_k0 (fun _ _ h => h) (hK5 _ _ _ _ _ ?_))
    clear hK5
    refine hQ.ret (rvs1 (rv_t rfl)) (fun _ _ h => h) fun w hb hs hB hkd => ?_
    first
      | exact ⟨rfl, hb⟩
      | (exfalso; omega)
      | (exfalso
         have hB : hillB A.ss f g least dip = true := by simpa using hc120
         obtain ⟨h, h1, h2, h3⟩ := hillsG_cover hin.2.1 (f := f) (g := g) (by omega) (by omega) (hillB_iff.1 hB) A.ss.length 0 (by omega) (by omega)
         rw [List.any_eq_false] at phs125
         have := phs125 h (hL ▸ h1)
         simp [h2, h3] at this
         done)
  · have phs24 := hs24; try simp only [decide_eq_true_eq, decide_eq_false_iff_not, Bool.not_eq_true', Bool.not_eq_false', Bool.not_true, Bool.not_false] at phs24
    refine ol_g rfl rfl hs24 ?_
    refine ol_r (r_fa (o' := 3) rfl fl26_3 rfl) rfl ?_
    refine ol_g rfl rfl hs24 ?_
    refine ol_r (r_ld (id := 5) rfl rfl rfl sc22) rfl ?_
    refine ol_g rfl rfl hs24 ?_
    refine ol_r (r_len rfl sl22) rfl ?_
    refine ol_g rfl rfl hs24 ?_
    refine ol_r (r_gtr rfl rfl) rfl ?_
    refine ol_r (r_pickF rfl hs24 rfl) rfl ?_
    refine ol_nil (to_k0 (fun _ _ h => h) (hK4 _ _ _ _ _ ?_))
    clear hK4
    first | refine wp_condD rfl (fun hc29 => ?_) (fun hc29 => ?_) | refine wp_condN rfl (fun hc29 => ?_) (fun hc29 => ?_) | refine wp_condNB rfl (fun hc29 => ?_) (fun hc29 => ?_) | refine wp_cond' rfl (fun hc29 => ?_) (fun hc29 => ?_)
    · refine wp_seq' fun K6 hK6 => ?_
      refine wp_reg ?_
      refine ol_call rfl rfl cb14 rfl (fun w1 hb1 hs1 hB1 => Calls.mono (law3_told _) ?_)
      rintro e w2 ⟨rfl, hb2⟩
      refine After.below rfl hb1 hs1 hB1 hb2 ?_
      clear hb2 hB1 hs1 hb1 w2 w1
      refine ol_r (r_assign rfl) rfl ?_
      refine ol_nil (to_k0 (fun _ _ h => h) (hK6 _ _ _ _ _ ?_))
      clear hK6
      refine hQ.ret (rvs1 (rv_t rfl)) (fun _ _ h => h) fun w hb hs hB hkd => ?_
      first
        | exact ⟨rfl, hb⟩
        | (exfalso; omega)
        | (exfalso
           have hB : hillB A.ss f g least dip = true := by simpa using hc120
           obtain ⟨h, h1, h2, h3⟩ := hillsG_cover hin.2.1 (f := f) (g := g) (by omega) (by omega) (hillB_iff.1 hB) A.ss.length 0 (by omega) (by omega)
           rw [List.any_eq_false] at phs125
           have := phs125 h (hL ▸ h1)
           simp [h2, h3] at this
           done)
    · refine wp_skip' (to_k0 (fun _ _ h => h) (hK3 _ _ _ _ _ ?_))
      clear hK3
      refine wp_seq' fun K7 hK7 => ?_
      refine wp_seq' fun K8 hK8 => ?_
      refine wp_reg ?_
      obtain ⟨h0, hin, hL⟩ := hillsR_inv (Decidable.not_not.1 (of_decide_eq_false hs24))
      change (hillsR A.d least dip).1 = hillsG A.ss least dip A.ss.length 0 at hL
      have hlen : n19 ≤ 300 := by
        rw [← hl19, hL]
        have := hillsG_len (ss := A.ss) (least := least) (dip := dip) A.ss.length 0
        omega
      have hok : SmpOk A.start A.ss := (goodA h0).smp
      have hz : ∀ x ∈ A.ss, -100000 ≤ x.z ∧ x.z ≤ 100000 := fun x hx => hok.hgt hx
      refine ol_r (r_move rfl) rfl ?_
      refine ol_r (r_len rfl sl44) rfl ?_
      refine ol_r (r_move rfl) rfl ?_
      refine ol_nil (to_k0 (fun _ _ h => h) (hK8 _ _ _ _ _ ?_))
      clear hK8
      refine wp_block' ?_
      apply wp_loopM (σ := Nat) (fun s => s ≤ (hillsR A.d least dip).1.length) (fun s => [(33, .int .i64 s)]) [(1, _), (2, _), (5, _), (8, _), (9, _), (11, _), (31, _), (32, _)] (fun s => []) [(5, _), (8, _), (9, _), (19, _)] (fun s => (hillsR A.d least dip).1.length - s) (0)
      · try dsimp only
        simp
      · exact (sub_cons rfl sub_nil)
      · exact (sub_cons rfl (sub_cons rfl (sub_cons rfl (sub_cons rfl (sub_cons rfl (sub_cons rfl (sub_cons rfl (sub_cons rfl sub_nil))))))))
      · exact subH_nil
      · exact (subH_same rfl (subH_same rfl (subH_same rfl (subH_same rfl subH_nil))))
      · rintro i hi
        intro K9 hK9
        refine wp_seq' fun K10 hK10 => ?_
        refine wp_reg ?_
        refine ol_r (r_lss rfl rfl) rfl ?_
        refine ol_nil (to_k0 (fun _ _ h => h) (hK10 _ _ _ _ _ ?_))
        clear hK10
        refine wp_seq' fun K11 hK11 => ?_
        first | refine wp_condD rfl (fun hc34 => ?_) (fun hc34 => ?_) | refine wp_condN rfl (fun hc34 => ?_) (fun hc34 => ?_) | refine wp_condNB rfl (fun hc34 => ?_) (fun hc34 => ?_) | refine wp_cond' rfl (fun hc34 => ?_) (fun hc34 => ?_)
        · refine wp_skip' (to_k0 (fun _ _ h => h) (hK11 _ _ _ _ _ ?_))
          clear hK11
          refine wp_seq' fun K12 hK12 => ?_
          refine wp_block' ?_
          refine wp_seq' fun K13 hK13 => ?_
          refine wp_reg ?_
          refine ol_r (r_move rfl) rfl ?_
          refine ol_ixo (id := 19) encHill _ rfl rfl rfl rfl sl44 (by omega) rfl fun x36 hx36 => ?_
          try simp only [Int.toNat_natCast] at hx36
          try simp only [Int.toNat_natCast] at hx36
          refine ol_r (r_ldw rfl (fun w1 hb1 hs1 hB1 => ld_own (id := 19) hs1 rfl rfl ty49 hx36)) rfl ?_
          obtain ⟨p, q, rfl, hp0, hpq2, hq, hH⟩ := hillsG_all hin.2.1 _ _ _ (hL ▸ List.mem_of_getElem? hx36)
          have e1 : (hillAt A.ss p q).from_ = p := rfl
          have e2 : (hillAt A.ss p q).to = q := rfl
          have e3 : (hillAt A.ss p q).rise = zAt A.ss q - zAt A.ss p := rfl
          refine ol_alloc 14 z49 rfl fun b14 => ?_
          refine ol_r (r_assign rfl) rfl ?_
          refine ol_store (id := 14) rfl rfl rfl rfl sz49 rfl rfl (by first | decide | exact Nat.zero_lt_succ _ | simp) ?_
          refine ol_nil (to_k0 (fun _ _ h => h) (hK13 _ _ _ _ _ ?_))
          clear hK13
          refine wp_seq' fun K14 hK14 => ?_
          refine wp_regq (by kernel_rfl) (by kernel_rfl) ?_
          refine ql_r (r_fa (o' := 0) rfl fl49_0 rfl) rfl ?_
          refine ql_r (r_ld (id := 14) rfl rfl rfl sc3) rfl ?_
          refine ql_r (r_lss rfl rfl) rfl ?_
          refine ql_r (r_move rfl) rfl ?_
          refine ql_split (d := 41) rfl (fun hs41 => ?_) (fun hs41 => ?_)
          · have phs41 := hs41; try simp only [decide_eq_true_eq, decide_eq_false_iff_not, Bool.not_eq_true', Bool.not_eq_false', Bool.not_true, Bool.not_false] at phs41
            exfalso
            omega
          · have phs41 := hs41; try simp only [decide_eq_true_eq, decide_eq_false_iff_not, Bool.not_eq_true', Bool.not_eq_false', Bool.not_true, Bool.not_false] at phs41
            refine ql_g rfl rfl hs41 ?_
            refine ql_r (r_fa (o' := 1) rfl fl49_1 rfl) rfl ?_
            refine ql_g rfl rfl hs41 ?_
            refine ql_r (r_ld (id := 14) rfl rfl rfl sc3) rfl ?_
            refine ql_g rfl rfl hs41 ?_
            refine ql_r (r_fa (o' := 3) rfl fl26_3 rfl) rfl ?_
            refine ql_g rfl rfl hs41 ?_
            refine ql_r (r_ld (id := 5) rfl rfl rfl sc22) rfl ?_
            refine ql_g rfl rfl hs41 ?_
            refine ql_r (r_len rfl sl22) rfl ?_
            refine ql_g rfl rfl hs41 ?_
            refine ql_r (r_geq rfl rfl) rfl ?_
            refine ql_r (r_pickF rfl hs41 rfl) rfl ?_
            refine ql_r (r_move rfl) rfl ?_
            refine ql_split (d := 49) rfl (fun hs49 => ?_) (fun hs49 => ?_)
            · have phs49 := hs49; try simp only [decide_eq_true_eq, decide_eq_false_iff_not, Bool.not_eq_true', Bool.not_eq_false', Bool.not_true, Bool.not_false] at phs49
              exfalso
              omega
            · have phs49 := hs49; try simp only [decide_eq_true_eq, decide_eq_false_iff_not, Bool.not_eq_true', Bool.not_eq_false', Bool.not_true, Bool.not_false] at phs49
              refine ql_g rfl rfl hs49 ?_
              refine ql_r (r_move rfl) rfl ?_
              refine ql_g rfl rfl hs49 ?_
              refine ql_r (r_gtr rfl rfl) rfl ?_
              refine ql_g rfl rfl hs49 ?_
              refine ql_r (r_move rfl) rfl ?_
              refine ql_split (d := 52) rfl (fun hs52 => ?_) (fun hs52 => ?_)
              · have phs52 := hs52; try simp only [decide_eq_true_eq, decide_eq_false_iff_not, Bool.not_eq_true', Bool.not_eq_false', Bool.not_true, Bool.not_false] at phs52
                refine ql_g rfl rfl hs52 ?_
                refine ql_r (r_fa (o' := 0) rfl fl49_0 rfl) rfl ?_
                refine ql_g rfl rfl hs52 ?_
                refine ql_r (r_ld (id := 14) rfl rfl rfl sc3) rfl ?_
                refine ql_g rfl rfl hs52 ?_
                refine ql_r (r_move rfl) rfl ?_
                refine ql_g rfl rfl hs52 ?_
                refine ql_r (r_move rfl) rfl ?_
                refine ql_g rfl rfl hs52 ?_
                refine ql_r (r_sub rfl rfl (by omega)) rfl ?_
                refine ql_g rfl rfl hs52 ?_
                refine ql_ixo (id := 19) encHill _ rfl rfl rfl rfl sl44 (by omega) (by omega) rfl fun x58 hx58 => ?_
                try simp only [Int.toNat_natCast] at hx58
                try simp only [Int.toNat_natCast] at hx58
                refine ql_g rfl rfl hs52 ?_
                refine ql_r (r_faO (id := 19) rfl rfl rfl hx58 fl49_1) rfl ?_
                refine ql_g rfl rfl hs52 ?_
                refine ql_r (r_ldw rfl (fun w1 hb1 hs1 hB1 => ld_ownF (id := 19) (o := 1) hs1 rfl rfl sc3 hx58 rfl)) rfl ?_
                refine ql_g rfl rfl hs52 ?_
                refine ql_r (r_leq rfl rfl) rfl ?_
                refine ql_g rfl rfl hs49 ?_
                refine ql_r (r_pickT rfl hs52 rfl) rfl ?_
                refine ql_r (r_pickF rfl hs49 rfl) rfl ?_
                refine ql_r (r_move rfl) rfl ?_
                refine ql_split (d := 64) rfl (fun hs64 => ?_) (fun hs64 => ?_)
                · have phs64 := hs64; try simp only [decide_eq_true_eq, decide_eq_false_iff_not, Bool.not_eq_true', Bool.not_eq_false', Bool.not_true, Bool.not_false] at phs64
                  exfalso
                  first
                    | (cases hs64; done)
                    | (obtain ⟨j, rfl⟩ : ∃ j, i = j + 1 := ⟨i - 1, by omega⟩
                       have e4 : (((j + 1 : Nat) : Int) - 1).toNat = j := by omega
                       rw [e4] at hx58
                       rw [hL] at hx36 hx58
                       have := hillsG_seq hin.2.1 _ _ _ _ _ hx58 hx36
                       omega)
                · have phs64 := hs64; try simp only [decide_eq_true_eq, decide_eq_false_iff_not, Bool.not_eq_true', Bool.not_eq_false', Bool.not_true, Bool.not_false] at phs64
                  refine ql_g rfl rfl hs64 ?_
                  refine ql_r (r_fa (o' := 3) rfl fl26_3 rfl) rfl ?_
                  refine ql_g rfl rfl hs64 ?_
                  refine ql_r (r_ld (id := 5) rfl rfl rfl sc22) rfl ?_
                  refine ql_g rfl rfl hs64 ?_
                  refine ql_r (r_fa (o' := 0) rfl fl49_0 rfl) rfl ?_
                  refine ql_g rfl rfl hs64 ?_
                  refine ql_r (r_ld (id := 14) rfl rfl rfl sc3) rfl ?_
                  refine ql_g rfl rfl hs64 ?_
                  refine ql_r (r_fa (o' := 1) rfl fl49_1 rfl) rfl ?_
                  refine ql_g rfl rfl hs64 ?_
                  refine ql_r (r_ld (id := 14) rfl rfl rfl sc3) rfl ?_
                  refine ql_g rfl rfl hs64 ?_
                  refine ql_r (r_move rfl) rfl ?_
                  refine ql_g rfl rfl hs64 ?_
                  refine ql_r (r_move rfl) rfl ?_
                  refine ql_g rfl rfl hs64 ?_
                  refine ql_call rfl rfl cb23 rfl (fun w1 hb1 hs1 hB1 => law3_isHill _ _ _ A.ss p q _ _ _ (hA.s.at hb1 hB1) hpq2 hq hz) ?_
                  refine ql_g rfl rfl hs64 ?_
                  refine ql_r (r_not rfl) rfl ?_
                  refine ql_r (r_pickF rfl hs64 rfl) rfl ?_
                  refine ql_r (r_move rfl) rfl ?_
                  refine ql_split (d := 76) rfl (fun hs76 => ?_) (fun hs76 => ?_)
                  · have phs76 := hs76; try simp only [decide_eq_true_eq, decide_eq_false_iff_not, Bool.not_eq_true', Bool.not_eq_false', Bool.not_true, Bool.not_false] at phs76
                    exfalso
                    rw [hillB_iff.2 hH] at hs76; cases hs76
                  · have phs76 := hs76; try simp only [decide_eq_true_eq, decide_eq_false_iff_not, Bool.not_eq_true', Bool.not_eq_false', Bool.not_true, Bool.not_false] at phs76
                    refine ql_g rfl rfl hs76 ?_
                    refine ql_r (r_fa (o' := 2) rfl fl49_2 rfl) rfl ?_
                    refine ql_g rfl rfl hs76 ?_
                    refine ql_r (r_ld (id := 14) rfl rfl rfl sc3) rfl ?_
                    refine ql_g rfl rfl hs76 ?_
                    refine ql_r (r_fa (o' := 3) rfl fl26_3 rfl) rfl ?_
                    refine ql_g rfl rfl hs76 ?_
                    refine ql_r (r_ld (id := 5) rfl rfl rfl sc22) rfl ?_
                    refine ql_g rfl rfl hs76 ?_
                    refine ql_r (r_fa (o' := 1) rfl fl49_1 rfl) rfl ?_
                    refine ql_g rfl rfl hs76 ?_
                    refine ql_r (r_ld (id := 14) rfl rfl rfl sc3) rfl ?_
                    refine ql_g rfl rfl hs76 ?_
                    refine ql_ixr hA.s rfl rfl sl22 (by omega) rfl fun x83 hx83 => ?_
                    try simp only [Int.toNat_natCast] at hx83
                    refine ql_g rfl rfl hs76 ?_
                    refine ql_r (r_faw rfl (ix_some hA.s (by omega)) fl36_3) rfl ?_
                    refine ql_g rfl rfl hs76 ?_
                    refine ql_r (r_ldw rfl (fun w1 hb1 hs1 hB1 => Rd.loadsF (o := 3) hA.s sc3 hx83 hb1 rfl)) rfl ?_
                    refine ql_g rfl rfl hs76 ?_
                    refine ql_r (r_fa (o' := 3) rfl fl26_3 rfl) rfl ?_
                    refine ql_g rfl rfl hs76 ?_
                    refine ql_r (r_ld (id := 5) rfl rfl rfl sc22) rfl ?_
                    refine ql_g rfl rfl hs76 ?_
                    refine ql_r (r_fa (o' := 0) rfl fl49_0 rfl) rfl ?_
                    refine ql_g rfl rfl hs76 ?_
                    refine ql_r (r_ld (id := 14) rfl rfl rfl sc3) rfl ?_
                    refine ql_g rfl rfl hs76 ?_
                    refine ql_ixr hA.s rfl rfl sl22 (by omega) rfl fun x90 hx90 => ?_
                    try simp only [Int.toNat_natCast] at hx90
                    refine ql_g rfl rfl hs76 ?_
                    refine ql_r (r_faw rfl (ix_some hA.s (by omega)) fl36_3) rfl ?_
                    refine ql_g rfl rfl hs76 ?_
                    have z1 := hz _ (List.mem_of_getElem? hx83)
                    have z2 := hz _ (List.mem_of_getElem? hx90)
                    have w1 : zAt A.ss q = x83.z := zAt_eq hx83
                    have w2 : zAt A.ss p = x90.z := zAt_eq hx90
                    refine ql_r (r_ldw rfl (fun w1 hb1 hs1 hB1 => Rd.loadsF (o := 3) hA.s sc3 hx90 hb1 rfl)) rfl ?_
                    refine ql_g rfl rfl hs76 ?_
                    refine ql_r (r_sub rfl rfl (by omega)) rfl ?_
                    refine ql_g rfl rfl hs76 ?_
                    refine ql_r (r_neq rfl rfl) rfl ?_
                    refine ql_r (r_pickF rfl hs76 rfl) rfl ?_
                    refine ql_nil (to_k0 (fun _ _ h => h) (hK14 _ _ _ _ _ ?_))
                    clear hK14
                    first | refine wp_condD rfl (fun hc95 => ?_) (fun hc95 => ?_) | refine wp_condN rfl (fun hc95 => ?_) (fun hc95 => ?_) | refine wp_condNB rfl (fun hc95 => ?_) (fun hc95 => ?_) | refine wp_cond' rfl (fun hc95 => ?_) (fun hc95 => ?_)
                    · refine wp_seq' fun K15 hK15 => ?_
                      refine wp_reg ?_
                      refine ol_r (r_assign rfl) rfl ?_
                      refine ol_nil (to_k0 (fun _ _ h => h) (hK15 _ _ _ _ _ ?_))
                      clear hK15
                      refine hQ.ret (rvs1 (rv_t rfl)) (fun _ _ h => h) fun w hb hs hB hkd => ?_
                      first
                        | exact ⟨rfl, hb⟩
                        | (exfalso; omega)
                        | (exfalso
                           have hB : hillB A.ss f g least dip = true := by simpa using hc120
                           obtain ⟨h, h1, h2, h3⟩ := hillsG_cover hin.2.1 (f := f) (g := g) (by omega) (by omega) (hillB_iff.1 hB) A.ss.length 0 (by omega) (by omega)
                           rw [List.any_eq_false] at phs125
                           have := phs125 h (hL ▸ h1)
                           simp [h2, h3] at this
                           done)
                    · refine wp_skip' (to_k0 (fun _ _ h => h) (hK12 _ _ _ _ _ ?_))
                      clear hK12
                      refine wp_reg ?_
                      refine ol_r (r_add rfl rfl (by omega)) rfl ?_
                      refine ol_r (r_move rfl) rfl ?_
                      refine ol_nil (to_k0 (fun _ _ h => h) (hK9 (i + 1) _ _ ?_ ?_ (sub_cons rfl sub_nil) (sub_cons rfl (sub_cons rfl (sub_cons rfl (sub_cons rfl (sub_cons rfl (sub_cons rfl (sub_cons rfl (sub_cons rfl sub_nil)))))))) (by exact subH_nil) (subH_same rfl (subH_same rfl (subH_same rfl (subH_same rfl subH_nil))))))
                      · try dsimp only
                        omega
                      · try dsimp only
                        omega
              · have phs52 := hs52; try simp only [decide_eq_true_eq, decide_eq_false_iff_not, Bool.not_eq_true', Bool.not_eq_false', Bool.not_true, Bool.not_false] at phs52
                refine ql_s rfl rfl hs52 rfl ?_
                refine ql_s rfl rfl hs52 rfl ?_
                refine ql_s rfl rfl hs52 rfl ?_
                refine ql_s rfl rfl hs52 rfl ?_
                refine ql_s rfl rfl hs52 rfl ?_
                refine ql_s rfl rfl hs52 rfl ?_
                refine ql_s rfl rfl hs52 rfl ?_
                refine ql_s rfl rfl hs52 rfl ?_
                refine ql_s rfl rfl hs52 rfl ?_
                refine ql_g rfl rfl hs49 ?_
                refine ql_r (r_pickF rfl hs52 rfl) rfl ?_
                refine ql_r (r_pickF rfl hs49 rfl) rfl ?_
                refine ql_r (r_move rfl) rfl ?_
                refine ql_g rfl rfl rfl ?_
                refine ql_r (r_fa (o' := 3) rfl fl26_3 rfl) rfl ?_
                refine ql_g rfl rfl rfl ?_
                refine ql_r (r_ld (id := 5) rfl rfl rfl sc22) rfl ?_
                refine ql_g rfl rfl rfl ?_
                refine ql_r (r_fa (o' := 0) rfl fl49_0 rfl) rfl ?_
                refine ql_g rfl rfl rfl ?_
                refine ql_r (r_ld (id := 14) rfl rfl rfl sc3) rfl ?_
                refine ql_g rfl rfl rfl ?_
                refine ql_r (r_fa (o' := 1) rfl fl49_1 rfl) rfl ?_
                refine ql_g rfl rfl rfl ?_
                refine ql_r (r_ld (id := 14) rfl rfl rfl sc3) rfl ?_
                refine ql_g rfl rfl rfl ?_
                refine ql_r (r_move rfl) rfl ?_
                refine ql_g rfl rfl rfl ?_
                refine ql_r (r_move rfl) rfl ?_
                refine ql_g rfl rfl rfl ?_
                refine ql_call rfl rfl cb23 rfl (fun w1 hb1 hs1 hB1 => law3_isHill _ _ _ A.ss p q _ _ _ (hA.s.at hb1 hB1) hpq2 hq hz) ?_
                refine ql_g rfl rfl rfl ?_
                refine ql_r (r_not rfl) rfl ?_
                refine ql_r (r_pickF rfl rfl rfl) rfl ?_
                refine ql_r (r_move rfl) rfl ?_
                refine ql_split (d := 76) rfl (fun hs76 => ?_) (fun hs76 => ?_)
                · have phs76 := hs76; try simp only [decide_eq_true_eq, decide_eq_false_iff_not, Bool.not_eq_true', Bool.not_eq_false', Bool.not_true, Bool.not_false] at phs76
                  exfalso
                  rw [hillB_iff.2 hH] at hs76; cases hs76
                · have phs76 := hs76; try simp only [decide_eq_true_eq, decide_eq_false_iff_not, Bool.not_eq_true', Bool.not_eq_false', Bool.not_true, Bool.not_false] at phs76
                  refine ql_g rfl rfl hs76 ?_
                  refine ql_r (r_fa (o' := 2) rfl fl49_2 rfl) rfl ?_
                  refine ql_g rfl rfl hs76 ?_
                  refine ql_r (r_ld (id := 14) rfl rfl rfl sc3) rfl ?_
                  refine ql_g rfl rfl hs76 ?_
                  refine ql_r (r_fa (o' := 3) rfl fl26_3 rfl) rfl ?_
                  refine ql_g rfl rfl hs76 ?_
                  refine ql_r (r_ld (id := 5) rfl rfl rfl sc22) rfl ?_
                  refine ql_g rfl rfl hs76 ?_
                  refine ql_r (r_fa (o' := 1) rfl fl49_1 rfl) rfl ?_
                  refine ql_g rfl rfl hs76 ?_
                  refine ql_r (r_ld (id := 14) rfl rfl rfl sc3) rfl ?_
                  refine ql_g rfl rfl hs76 ?_
                  refine ql_ixr hA.s rfl rfl sl22 (by omega) rfl fun x83 hx83 => ?_
                  try simp only [Int.toNat_natCast] at hx83
                  refine ql_g rfl rfl hs76 ?_
                  refine ql_r (r_faw rfl (ix_some hA.s (by omega)) fl36_3) rfl ?_
                  refine ql_g rfl rfl hs76 ?_
                  refine ql_r (r_ldw rfl (fun w1 hb1 hs1 hB1 => Rd.loadsF (o := 3) hA.s sc3 hx83 hb1 rfl)) rfl ?_
                  refine ql_g rfl rfl hs76 ?_
                  refine ql_r (r_fa (o' := 3) rfl fl26_3 rfl) rfl ?_
                  refine ql_g rfl rfl hs76 ?_
                  refine ql_r (r_ld (id := 5) rfl rfl rfl sc22) rfl ?_
                  refine ql_g rfl rfl hs76 ?_
                  refine ql_r (r_fa (o' := 0) rfl fl49_0 rfl) rfl ?_
                  refine ql_g rfl rfl hs76 ?_
                  refine ql_r (r_ld (id := 14) rfl rfl rfl sc3) rfl ?_
                  refine ql_g rfl rfl hs76 ?_
                  refine ql_ixr hA.s rfl rfl sl22 (by omega) rfl fun x90 hx90 => ?_
                  try simp only [Int.toNat_natCast] at hx90
                  refine ql_g rfl rfl hs76 ?_
                  refine ql_r (r_faw rfl (ix_some hA.s (by omega)) fl36_3) rfl ?_
                  refine ql_g rfl rfl hs76 ?_
                  have z1 := hz _ (List.mem_of_getElem? hx83)
                  have z2 := hz _ (List.mem_of_getElem? hx90)
                  have w1 : zAt A.ss q = x83.z := zAt_eq hx83
                  have w2 : zAt A.ss p = x90.z := zAt_eq hx90
                  refine ql_r (r_ldw rfl (fun w1 hb1 hs1 hB1 => Rd.loadsF (o := 3) hA.s sc3 hx90 hb1 rfl)) rfl ?_
                  refine ql_g rfl rfl hs76 ?_
                  refine ql_r (r_sub rfl rfl (by omega)) rfl ?_
                  refine ql_g rfl rfl hs76 ?_
                  refine ql_r (r_neq rfl rfl) rfl ?_
                  refine ql_r (r_pickF rfl hs76 rfl) rfl ?_
                  refine ql_nil (to_k0 (fun _ _ h => h) (hK14 _ _ _ _ _ ?_))
                  clear hK14
                  first | refine wp_condD rfl (fun hc95 => ?_) (fun hc95 => ?_) | refine wp_condN rfl (fun hc95 => ?_) (fun hc95 => ?_) | refine wp_condNB rfl (fun hc95 => ?_) (fun hc95 => ?_) | refine wp_cond' rfl (fun hc95 => ?_) (fun hc95 => ?_)
                  · refine wp_seq' fun K16 hK16 => ?_
                    refine wp_reg ?_
                    refine ol_r (r_assign rfl) rfl ?_
                    refine ol_nil (to_k0 (fun _ _ h => h) (hK16 _ _ _ _ _ ?_))
                    clear hK16
                    refine hQ.ret (rvs1 (rv_t rfl)) (fun _ _ h => h) fun w hb hs hB hkd => ?_
                    first
                      | exact ⟨rfl, hb⟩
                      | (exfalso; omega)
                      | (exfalso
                         have hB : hillB A.ss f g least dip = true := by simpa using hc120
                         obtain ⟨h, h1, h2, h3⟩ := hillsG_cover hin.2.1 (f := f) (g := g) (by omega) (by omega) (hillB_iff.1 hB) A.ss.length 0 (by omega) (by omega)
                         rw [List.any_eq_false] at phs125
                         have := phs125 h (hL ▸ h1)
                         simp [h2, h3] at this
                         done)
                  · refine wp_skip' (to_k0 (fun _ _ h => h) (hK12 _ _ _ _ _ ?_))
                    clear hK12
                    refine wp_reg ?_
                    refine ol_r (r_add rfl rfl (by omega)) rfl ?_
                    refine ol_r (r_move rfl) rfl ?_
                    refine ol_nil (to_k0 (fun _ _ h => h) (hK9 (i + 1) _ _ ?_ ?_ (sub_cons rfl sub_nil) (sub_cons rfl (sub_cons rfl (sub_cons rfl (sub_cons rfl (sub_cons rfl (sub_cons rfl (sub_cons rfl (sub_cons rfl sub_nil)))))))) (by exact subH_nil) (subH_same rfl (subH_same rfl (subH_same rfl (subH_same rfl subH_nil))))))
                    · try dsimp only
                      omega
                    · try dsimp only
                      omega
        · refine wp_exit' (to_k0 (fun _ _ h => h) (hK7 _ _ _ _ _ ?_))
          clear hK7
          refine wp_seq' fun K17 hK17 => ?_
          refine wp_seq' fun K18 hK18 => ?_
          refine wp_reg ?_
          refine ol_r (r_ld (id := 8) rfl rfl rfl sc3) rfl ?_
          refine ol_r (r_lss rfl rfl) rfl ?_
          refine ol_r (r_move rfl) rfl ?_
          refine ol_split (d := 99) rfl (fun hs99 => ?_) (fun hs99 => ?_)
          · have phs99 := hs99; try simp only [decide_eq_true_eq, decide_eq_false_iff_not, Bool.not_eq_true', Bool.not_eq_false', Bool.not_true, Bool.not_false] at phs99
            refine ol_s rfl rfl hs99 rfl ?_
            refine ol_s rfl rfl hs99 rfl ?_
            refine ol_s rfl rfl hs99 rfl ?_
            refine ol_s rfl rfl hs99 rfl ?_
            refine ol_s rfl rfl hs99 rfl ?_
            refine ol_r (r_pickT rfl hs99 rfl) rfl ?_
            refine ol_r (r_move rfl) rfl ?_
            refine ol_s rfl rfl rfl rfl ?_
            refine ol_s rfl rfl rfl rfl ?_
            refine ol_s rfl rfl rfl rfl ?_
            refine ol_r (r_pickT rfl rfl rfl) rfl ?_
            refine ol_r (r_move rfl) rfl ?_
            refine ol_s rfl rfl rfl rfl ?_
            refine ol_s rfl rfl rfl rfl ?_
            refine ol_s rfl rfl rfl rfl ?_
            refine ol_s rfl rfl rfl rfl ?_
            refine ol_s rfl rfl rfl rfl ?_
            refine ol_s rfl rfl rfl rfl ?_
            refine ol_s rfl rfl rfl rfl ?_
            refine ol_s rfl rfl rfl rfl ?_
            refine ol_r (r_pickT rfl rfl rfl) rfl ?_
            refine ol_nil (to_k0 (fun _ _ h => h) (hK18 _ _ _ _ _ ?_))
            clear hK18
            refine wp_condT rfl ?_
            refine wp_seq' fun K19 hK19 => ?_
            refine wp_reg ?_
            refine ol_call rfl rfl cb14 rfl (fun w1 hb1 hs1 hB1 => Calls.mono (law3_told _) ?_)
            rintro e w2 ⟨rfl, hb2⟩
            refine After.below rfl hb1 hs1 hB1 hb2 ?_
            clear hb2 hB1 hs1 hb1 w2 w1
            refine ol_r (r_assign rfl) rfl ?_
            refine ol_nil (to_k0 (fun _ _ h => h) (hK19 _ _ _ _ _ ?_))
            clear hK19
            refine hQ.ret (rvs1 (rv_t rfl)) (fun _ _ h => h) fun w hb hs hB hkd => ?_
            first
              | exact ⟨rfl, hb⟩
              | (exfalso; omega)
              | (exfalso
                 have hB : hillB A.ss f g least dip = true := by simpa using hc120
                 obtain ⟨h, h1, h2, h3⟩ := hillsG_cover hin.2.1 (f := f) (g := g) (by omega) (by omega) (hillB_iff.1 hB) A.ss.length 0 (by omega) (by omega)
                 rw [List.any_eq_false] at phs125
                 have := phs125 h (hL ▸ h1)
                 simp [h2, h3] at this
                 done)
          · have phs99 := hs99; try simp only [decide_eq_true_eq, decide_eq_false_iff_not, Bool.not_eq_true', Bool.not_eq_false', Bool.not_true, Bool.not_false] at phs99
            refine ol_g rfl rfl hs99 ?_
            refine ol_r (r_ld (id := 9) rfl rfl rfl sc3) rfl ?_
            refine ol_g rfl rfl hs99 ?_
            refine ol_r (r_fa (o' := 3) rfl fl26_3 rfl) rfl ?_
            refine ol_g rfl rfl hs99 ?_
            refine ol_r (r_ld (id := 5) rfl rfl rfl sc22) rfl ?_
            refine ol_g rfl rfl hs99 ?_
            refine ol_r (r_len rfl sl22) rfl ?_
            refine ol_g rfl rfl hs99 ?_
            refine ol_r (r_geq rfl rfl) rfl ?_
            refine ol_r (r_pickF rfl hs99 rfl) rfl ?_
            refine ol_r (r_move rfl) rfl ?_
            refine ol_split (d := 106) rfl (fun hs106 => ?_) (fun hs106 => ?_)
            · have phs106 := hs106; try simp only [decide_eq_true_eq, decide_eq_false_iff_not, Bool.not_eq_true', Bool.not_eq_false', Bool.not_true, Bool.not_false] at phs106
              refine ol_s rfl rfl hs106 rfl ?_
              refine ol_s rfl rfl hs106 rfl ?_
              refine ol_s rfl rfl hs106 rfl ?_
              refine ol_r (r_pickT rfl hs106 rfl) rfl ?_
              refine ol_r (r_move rfl) rfl ?_
              refine ol_s rfl rfl rfl rfl ?_
              refine ol_s rfl rfl rfl rfl ?_
              refine ol_s rfl rfl rfl rfl ?_
              refine ol_s rfl rfl rfl rfl ?_
              refine ol_s rfl rfl rfl rfl ?_
              refine ol_s rfl rfl rfl rfl ?_
              refine ol_s rfl rfl rfl rfl ?_
              refine ol_s rfl rfl rfl rfl ?_
              refine ol_r (r_pickT rfl rfl rfl) rfl ?_
              refine ol_nil (to_k0 (fun _ _ h => h) (hK18 _ _ _ _ _ ?_))
              clear hK18
              refine wp_condT rfl ?_
              refine wp_seq' fun K20 hK20 => ?_
              refine wp_reg ?_
              refine ol_call rfl rfl cb14 rfl (fun w1 hb1 hs1 hB1 => Calls.mono (law3_told _) ?_)
              rintro e w2 ⟨rfl, hb2⟩
              refine After.below rfl hb1 hs1 hB1 hb2 ?_
              clear hb2 hB1 hs1 hb1 w2 w1
              refine ol_r (r_assign rfl) rfl ?_
              refine ol_nil (to_k0 (fun _ _ h => h) (hK20 _ _ _ _ _ ?_))
              clear hK20
              refine hQ.ret (rvs1 (rv_t rfl)) (fun _ _ h => h) fun w hb hs hB hkd => ?_
              first
                | exact ⟨rfl, hb⟩
                | (exfalso; omega)
                | (exfalso
                   have hB : hillB A.ss f g least dip = true := by simpa using hc120
                   obtain ⟨h, h1, h2, h3⟩ := hillsG_cover hin.2.1 (f := f) (g := g) (by omega) (by omega) (hillB_iff.1 hB) A.ss.length 0 (by omega) (by omega)
                   rw [List.any_eq_false] at phs125
                   have := phs125 h (hL ▸ h1)
                   simp [h2, h3] at this
                   done)
            · have phs106 := hs106; try simp only [decide_eq_true_eq, decide_eq_false_iff_not, Bool.not_eq_true', Bool.not_eq_false', Bool.not_true, Bool.not_false] at phs106
              refine ol_g rfl rfl hs106 ?_
              refine ol_r (r_ld (id := 8) rfl rfl rfl sc3) rfl ?_
              refine ol_g rfl rfl hs106 ?_
              refine ol_r (r_ld (id := 9) rfl rfl rfl sc3) rfl ?_
              refine ol_g rfl rfl hs106 ?_
              refine ol_r (r_gtr rfl rfl) rfl ?_
              refine ol_r (r_pickF rfl hs106 rfl) rfl ?_
              refine ol_r (r_move rfl) rfl ?_
              refine ol_split (d := 111) rfl (fun hs111 => ?_) (fun hs111 => ?_)
              · have phs111 := hs111; try simp only [decide_eq_true_eq, decide_eq_false_iff_not, Bool.not_eq_true', Bool.not_eq_false', Bool.not_true, Bool.not_false] at phs111
                refine ol_s rfl rfl hs111 rfl ?_
                refine ol_s rfl rfl hs111 rfl ?_
                refine ol_s rfl rfl hs111 rfl ?_
                refine ol_s rfl rfl hs111 rfl ?_
                refine ol_s rfl rfl hs111 rfl ?_
                refine ol_s rfl rfl hs111 rfl ?_
                refine ol_s rfl rfl hs111 rfl ?_
                refine ol_s rfl rfl hs111 rfl ?_
                refine ol_r (r_pickT rfl hs111 rfl) rfl ?_
                refine ol_nil (to_k0 (fun _ _ h => h) (hK18 _ _ _ _ _ ?_))
                clear hK18
                refine wp_condT rfl ?_
                refine wp_seq' fun K21 hK21 => ?_
                refine wp_reg ?_
                refine ol_call rfl rfl cb14 rfl (fun w1 hb1 hs1 hB1 => Calls.mono (law3_told _) ?_)
                rintro e w2 ⟨rfl, hb2⟩
                refine After.below rfl hb1 hs1 hB1 hb2 ?_
                clear hb2 hB1 hs1 hb1 w2 w1
                refine ol_r (r_assign rfl) rfl ?_
                refine ol_nil (to_k0 (fun _ _ h => h) (hK21 _ _ _ _ _ ?_))
                clear hK21
                refine hQ.ret (rvs1 (rv_t rfl)) (fun _ _ h => h) fun w hb hs hB hkd => ?_
                first
                  | exact ⟨rfl, hb⟩
                  | (exfalso; omega)
                  | (exfalso
                     have hB : hillB A.ss f g least dip = true := by simpa using hc120
                     obtain ⟨h, h1, h2, h3⟩ := hillsG_cover hin.2.1 (f := f) (g := g) (by omega) (by omega) (hillB_iff.1 hB) A.ss.length 0 (by omega) (by omega)
                     rw [List.any_eq_false] at phs125
                     have := phs125 h (hL ▸ h1)
                     simp [h2, h3] at this
                     done)
              · have phs111 := hs111; try simp only [decide_eq_true_eq, decide_eq_false_iff_not, Bool.not_eq_true', Bool.not_eq_false', Bool.not_true, Bool.not_false] at phs111
                refine ol_g rfl rfl hs111 ?_
                refine ol_r (r_fa (o' := 3) rfl fl26_3 rfl) rfl ?_
                refine ol_g rfl rfl hs111 ?_
                refine ol_r (r_ld (id := 5) rfl rfl rfl sc22) rfl ?_
                refine ol_g rfl rfl hs111 ?_
                refine ol_r (r_ld (id := 8) rfl rfl rfl sc3) rfl ?_
                refine ol_g rfl rfl hs111 ?_
                refine ol_r (r_ld (id := 9) rfl rfl rfl sc3) rfl ?_
                refine ol_g rfl rfl hs111 ?_
                refine ol_r (r_move rfl) rfl ?_
                refine ol_g rfl rfl hs111 ?_
                refine ol_r (r_move rfl) rfl ?_
                refine ol_g rfl rfl hs111 ?_
                obtain ⟨f, rfl⟩ := Int.eq_ofNat_of_zero_le (show 0 ≤ f by omega)
                obtain ⟨g, rfl⟩ := Int.eq_ofNat_of_zero_le (show 0 ≤ g by omega)
                refine ol_call rfl rfl cb23 rfl (fun w1 hb1 hs1 hB1 => Calls.mono (law3_isHill _ _ _ A.ss f g _ _ _ (hA.s.at hb1 hB1) (by omega) (by omega) hz) ?_)
                rintro e w2 ⟨rfl, hb2⟩
                refine After.below rfl hb1 hs1 hB1 hb2 ?_
                clear hb2 hB1 hs1 hb1 w2 w1
                refine ol_g rfl rfl hs111 ?_
                refine ol_r (r_not rfl) rfl ?_
                refine ol_r (r_pickF rfl hs111 rfl) rfl ?_
                refine ol_nil (to_k0 (fun _ _ h => h) (hK18 _ _ _ _ _ ?_))
                clear hK18
                first | refine wp_condD rfl (fun hc120 => ?_) (fun hc120 => ?_) | refine wp_condN rfl (fun hc120 => ?_) (fun hc120 => ?_) | refine wp_condNB rfl (fun hc120 => ?_) (fun hc120 => ?_) | refine wp_cond' rfl (fun hc120 => ?_) (fun hc120 => ?_)
                · refine wp_seq' fun K22 hK22 => ?_
                  refine wp_reg ?_
                  refine ol_call rfl rfl cb14 rfl (fun w1 hb1 hs1 hB1 => Calls.mono (law3_told _) ?_)
                  rintro e w2 ⟨rfl, hb2⟩
                  refine After.below rfl hb1 hs1 hB1 hb2 ?_
                  clear hb2 hB1 hs1 hb1 w2 w1
                  refine ol_r (r_assign rfl) rfl ?_
                  refine ol_nil (to_k0 (fun _ _ h => h) (hK22 _ _ _ _ _ ?_))
                  clear hK22
                  refine hQ.ret (rvs1 (rv_t rfl)) (fun _ _ h => h) fun w hb hs hB hkd => ?_
                  first
                    | exact ⟨rfl, hb⟩
                    | (exfalso; omega)
                    | (exfalso
                       have hB : hillB A.ss f g least dip = true := by simpa using hc120
                       obtain ⟨h, h1, h2, h3⟩ := hillsG_cover hin.2.1 (f := f) (g := g) (by omega) (by omega) (hillB_iff.1 hB) A.ss.length 0 (by omega) (by omega)
                       rw [List.any_eq_false] at phs125
                       have := phs125 h (hL ▸ h1)
                       simp [h2, h3] at this
                       done)
                · refine wp_skip' (to_k0 (fun _ _ h => h) (hK17 _ _ _ _ _ ?_))
                  clear hK17
                  refine wp_seq' fun K23 hK23 => ?_
                  refine wp_reg ?_
                  refine ol_r (r_move rfl) rfl ?_
                  refine ol_r (r_func rfl) rfl ?_
                  refine ol_call rfl rfl cb24 rfl (fun w1 hb1 hs1 hB1 => Calls.mono (containsFunc_hill _ _ _ (hillsR A.d least dip).1 _ _ (fun x => decide (x.from_ ≤ f) && decide (g ≤ x.to)) _ (Sat.rd hs1 (E := encHill) (id := 19) rfl rfl) cb25 (fun x w' _ h1 h2 => law3_cover x f g _ _ w' ((hs1.blk (id := 8) rfl).at h1 h2) ((hs1.blk (id := 9) rfl).at h1 h2))) ?_)
                  rintro e w2 ⟨rfl, hb2⟩
                  refine After.below rfl hb1 hs1 hB1 hb2 ?_
                  clear hb2 hB1 hs1 hb1 w2 w1
                  refine ol_r (r_move rfl) rfl ?_
                  refine ol_split (d := 125) rfl (fun hs125 => ?_) (fun hs125 => ?_)
                  · have phs125 := hs125; try simp only [decide_eq_true_eq, decide_eq_false_iff_not, Bool.not_eq_true', Bool.not_eq_false', Bool.not_true, Bool.not_false] at phs125
                    refine ol_g rfl rfl hs125 ?_
                    refine ol_call rfl rfl cb14 rfl (fun w1 hb1 hs1 hB1 => Calls.mono (law3_told _) ?_)
                    rintro e w2 ⟨rfl, hb2⟩
                    refine After.below rfl hb1 hs1 hB1 hb2 ?_
                    clear hb2 hB1 hs1 hb1 w2 w1
                    refine ol_r (r_pickT rfl hs125 rfl) rfl ?_
                    refine ol_r (r_assign rfl) rfl ?_
                    refine ol_nil (to_k0 (fun _ _ h => h) (hK23 _ _ _ _ _ ?_))
                    clear hK23
                    refine hQ.ret (rvs1 (rv_t rfl)) (fun _ _ h => h) fun w hb hs hB hkd => ?_
                    first
                      | exact ⟨rfl, hb⟩
                      | (exfalso; omega)
                      | (exfalso
                         have hB : hillB A.ss f g least dip = true := by simpa using hc120
                         obtain ⟨h, h1, h2, h3⟩ := hillsG_cover hin.2.1 (f := f) (g := g) (by omega) (by omega) (hillB_iff.1 hB) A.ss.length 0 (by omega) (by omega)
                         rw [List.any_eq_false] at phs125
                         have := phs125 h (hL ▸ h1)
                         simp [h2, h3] at this
                         done)
                  · have phs125 := hs125; try simp only [decide_eq_true_eq, decide_eq_false_iff_not, Bool.not_eq_true', Bool.not_eq_false', Bool.not_true, Bool.not_false] at phs125
                    refine ol_s rfl rfl hs125 rfl ?_
                    refine ol_r (r_pickF rfl hs125 rfl) rfl ?_
                    refine ol_r (r_assign rfl) rfl ?_
                    refine ol_nil (to_k0 (fun _ _ h => h) (hK23 _ _ _ _ _ ?_))
                    clear hK23
                    refine hQ.ret (rvs1 (rv_t rfl)) (fun _ _ h => h) fun w hb hs hB hkd => ?_
                    first
                      | exact ⟨rfl, hb⟩
                      | (exfalso; omega)
                      | (exfalso
                         have hB : hillB A.ss f g least dip = true := by simpa using hc120
                         obtain ⟨h, h1, h2, h3⟩ := hillsG_cover hin.2.1 (f := f) (g := g) (by omega) (by omega) (hillB_iff.1 hB) A.ss.length 0 (by omega) (by omega)
                         rw [List.any_eq_false] at phs125
                         have := phs125 h (hL ▸ h1)
                         simp [h2, h3] at this
                         done)
end Go.Proofs.Ytlbcefnbjdpljaa
