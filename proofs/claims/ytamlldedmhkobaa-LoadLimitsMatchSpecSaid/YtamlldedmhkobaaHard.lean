/-
  Hard: program and reference.
-/
import Derived.Test.YtamlldedmhkobaaCurve
import Derived.Test.YtamlldedmhkobaaHardM
namespace Go.Proofs.Ytamlldedmhkobaa
open Go Go.RowKit Hx
set_option linter.unusedVariables false
set_option linter.unusedSimpArgs false
set_option maxRecDepth 8000

theorem pS_diff {xs : List Int} (h : ∀ x ∈ xs, x ≤ 10000) (k : Nat) : ∀ d : Nat, pS xs (k + d) - pS xs k ≤ 10000 * d
  | 0 => by simp
  | d + 1 => by
    have ih := pS_diff h k d
    cases hx : xs[k + d]? with
    | none =>
      have : pS xs (k + (d + 1)) = pS xs (k + d) := by unfold pS; rw [List.take_of_length_le (by have := List.getElem?_eq_none_iff.1 hx; omega), List.take_of_length_le (by have := List.getElem?_eq_none_iff.1 hx; omega)]
      omega
    | some x =>
      have h1 := pS_succ hx
      have h2 := h x (List.mem_of_getElem? hx)
      have h3 : pv x ≤ 10000 := by unfold pv; split <;> omega
      have : k + (d + 1) = k + d + 1 := by omega
      rw [this]; omega
theorem smV_bd {xs : List Int} (h : ∀ x ∈ xs, x ≤ 10000) (z i : Nat) (hz : 1 ≤ z) : -1 ≤ smV xs z i ∧ smV xs z i ≤ 10000 := by
  unfold smV
  split
  · rename_i hc
    have h1 := pS_diff h (i + 1 - z) z
    have h2 := pS_mono (xs := xs) (show i + 1 - z ≤ i + 1 by omega)
    rw [show i + 1 - z + z = i + 1 by omega] at h1
    have h3 : 0 ≤ (pS xs (i + 1) - pS xs (i + 1 - z)) / (z : Int) := Int.ediv_nonneg (by omega) (by omega)
    have h4 : (pS xs (i + 1) - pS xs (i + 1 - z)) / (z : Int) ≤ 10000 := Int.ediv_le_of_le_mul (by omega) (by omega)
    omega
  · omega
theorem smK_bd {xs : List Int} (h : ∀ x ∈ xs, x ≤ 10000) (z : Nat) (hz : 1 ≤ z) : ∀ v ∈ smK xs z xs.length, -1 ≤ v ∧ v ≤ 10000 := fun v hv => by
  rw [smK_full] at hv
  obtain ⟨i, _, rfl⟩ := List.mem_map.1 hv
  exact smV_bd h z i hz
theorem slices_Max (a : Option Addr) (n cap : Nat) (xs : List Int) (w : World) (hl : Rd encI w.heap.size w a n cap xs) (hn : 0 < n) :
    Calls Try.prog 65 #[.slice a n cap] w fun e w' => ∃ m : Int, (m ∈ xs ∧ ∀ x ∈ xs, x ≤ m) ∧ e = .returned (.int .i64 m) ∧ Below w.heap.size w w' := by
  have hlen := hl.len
  have hfit := hl.fit
  subst hlen
  refine enterQ (N := 25) (C := fun _ => True) (H := []) (B := w.heap.size) (args := [_]) Try.func65 rfl rfl rfl (Nat.le_refl _) (Sat.nil _ _) fun Q hQ => ?_
  refine wp_seq' fun K1 hK1 => ?_
  refine wp_reg ?_
  refine ol_r (r_assign rfl) rfl ?_
  refine ol_nil (to_k0 (fun _ _ h => h) (hK1 _ _ _ ?_))
  clear hK1
  refine wp_seq' fun K2 hK2 => ?_
  refine wp_seq' fun K3 hK3 => ?_
  refine wp_reg ?_
  refine ol_r (r_move rfl) rfl ?_
  refine ol_r (r_len rfl sl22) rfl ?_
  refine ol_r (r_lss rfl rfl) rfl ?_
  refine ol_nil (to_k0 (fun _ _ h => h) (hK3 _ _ _ ?_))
  clear hK3
  first | refine wp_condD rfl (fun hc7 => ?_) (fun hc7 => ?_) | refine wp_condN rfl (fun hc7 => ?_) (fun hc7 => ?_) | refine wp_condNB rfl (fun hc7 => ?_) (fun hc7 => ?_) | refine wp_cond' rfl (fun hc7 => ?_) (fun hc7 => ?_)
  · exfalso
    omega
  · refine wp_skip' (to_k0 (fun _ _ h => h) (hK2 _ _ _ ?_))
    clear hK2
    refine wp_seq' fun K4 hK4 => ?_
    refine wp_reg ?_
    refine ol_r (r_move rfl) rfl ?_
    refine ol_ixr hl rfl rfl sl22 (by omega) rfl fun x10 hx10 => ?_
    try simp only [Int.toNat_natCast] at hx10
    refine ol_r (r_ldw rfl (fun w1 hb1 hs1 hB1 => show Loads _ _ _ _ (.int .i64 x10) from Rd.loads hl ty3 hx10 hb1)) rfl ?_
    refine ol_r (r_assign rfl) rfl ?_
    refine ol_nil (to_k0 (fun _ _ h => h) (hK4 _ _ _ ?_))
    clear hK4
    refine wp_seq' fun K5 hK5 => ?_
    refine wp_seq' fun K6 hK6 => ?_
    refine wp_reg ?_
    refine ol_r (r_assign rfl) rfl ?_
    refine ol_nil (to_k0 (fun _ _ h => h) (hK6 _ _ _ ?_))
    clear hK6
    refine wp_block' ?_
    apply wp_loopM (σ := Nat × Int) (fun s => 1 ≤ s.1 ∧ s.1 ≤ xs.length ∧ s.2 ∈ xs ∧ ∀ x ∈ xs.take s.1, x ≤ s.2) (fun s => [(4, .int .i64 s.1), (3, .int .i64 s.2)]) [(0, _), (2, _)] (fun s => []) [] (fun s => xs.length - s.1) ((1, x10))
    · try dsimp only
      refine ⟨Nat.le_refl _, by omega, List.mem_of_getElem? hx10, fun x hx => ?_⟩
      rw [take_succ_get (k := 0) (by simpa using hx10)] at hx
      simp at hx
      omega
    · exact (sub_cons rfl (sub_cons rfl sub_nil))
    · exact (sub_cons rfl (sub_cons rfl sub_nil))
    · exact subH_nil
    · exact subH_nil
    · rintro ⟨i, v⟩ ⟨h1, hi, hm, hP⟩
      dsimp only at h1 hi hm hP ⊢
      intro K7 hK7
      refine wp_seq' fun K8 hK8 => ?_
      refine wp_seq' fun K9 hK9 => ?_
      refine wp_reg ?_
      refine ol_r (r_move rfl) rfl ?_
      refine ol_r (r_move rfl) rfl ?_
      refine ol_r (r_len rfl sl22) rfl ?_
      refine ol_r (r_lss rfl rfl) rfl ?_
      refine ol_nil (to_k0 (fun _ _ h => h) (hK9 _ _ _ ?_))
      clear hK9
      first | refine wp_condD rfl (fun hc15 => ?_) (fun hc15 => ?_) | refine wp_condN rfl (fun hc15 => ?_) (fun hc15 => ?_) | refine wp_condNB rfl (fun hc15 => ?_) (fun hc15 => ?_) | refine wp_cond' rfl (fun hc15 => ?_) (fun hc15 => ?_)
      · refine wp_skip' (to_k0 (fun _ _ h => h) (hK8 _ _ _ ?_))
        clear hK8
        refine wp_seq' fun K10 hK10 => ?_
        refine wp_block' ?_
        refine wp_reg ?_
        refine ol_r (r_move rfl) rfl ?_
        refine ol_r (r_move rfl) rfl ?_
        refine ol_r (r_move rfl) rfl ?_
        refine ol_ixr hl rfl rfl sl22 (by omega) rfl fun x21 hx21 => ?_
        try simp only [Int.toNat_natCast] at hx21
        refine ol_r (r_ldw rfl (fun w1 hb1 hs1 hB1 => show Loads _ _ _ _ (.int .i64 x21) from Rd.loads hl ty3 hx21 hb1)) rfl ?_
        refine ol_r (r_max rfl rfl) rfl ?_
        refine ol_r (r_assign rfl) rfl ?_
        refine ol_nil (to_k0 (fun _ _ h => h) (hK10 _ _ _ ?_))
        clear hK10
        refine wp_reg ?_
        refine ol_r (r_move rfl) rfl ?_
        refine ol_r (r_add rfl rfl (by omega)) rfl ?_
        refine ol_r (r_assign rfl) rfl ?_
        refine ol_nil (to_k0 (fun _ _ h => h) (hK7 ((i + 1, _)) _ _ ?_ ?_ (sub_cons rfl (sub_cons rfl sub_nil)) (sub_cons rfl (sub_cons rfl sub_nil)) (by exact subH_nil) subH_nil))
        · try dsimp only
          refine ⟨by omega, by omega, ?_, fun x hx => ?_⟩
          · rcases Int.le_total v x21 with h | h
            · rw [Int.max_eq_right h]; exact List.mem_of_getElem? hx21
            · rw [Int.max_eq_left h]; exact hm
          · rw [take_succ_get hx21] at hx
            rcases List.mem_append.1 hx with hx | hx
            · have := hP x hx; omega
            · simp at hx; omega
        · try dsimp only
          omega
      · refine wp_exit' (to_k0 (fun _ _ h => h) (hK5 _ _ _ ?_))
        clear hK5
        refine wp_seq' fun K11 hK11 => ?_
        refine wp_reg ?_
        refine ol_r (r_move rfl) rfl ?_
        refine ol_r (r_assign rfl) rfl ?_
        refine ol_nil (to_k0 (fun _ _ h => h) (hK11 _ _ _ ?_))
        clear hK11
        refine hQ.ret (rvs1 (rv_t rfl)) (fun _ _ h => h) fun w hb hs hB hkd => ?_
        have hin : i = xs.length := by omega
        subst hin
        rw [List.take_length] at hP
        exact ⟨v, ⟨hm, hP⟩, rfl, hb⟩
theorem effort_Hard (a : Option Addr) (n cap : Nat) (xs : List Int) (w : World) (hl : Rd encI w.heap.size w a n cap xs) :
    Calls Try.prog 87 #[.slice a n cap] w fun e w' => ∃ (r c : Int) (ok : Bool), HardR xs (smK xs 30 n) r ok c ∧ e = .returned (.tuple #[.int .i64 r, .bool ok, .int .i64 c]) ∧ Below w.heap.size w w' := by
  have hn := hl.len
  have hfit := hl.fit
  subst hn
  refine enterQ (N := 67) (C := fun _ => True) (H := []) (B := w.heap.size) (args := [_]) Try.func87 rfl rfl rfl (Nat.le_refl _) (Sat.nil _ _) fun Q hQ => ?_
  refine wp_seq' fun K1 hK1 => ?_
  refine wp_reg ?_
  refine ol_r (r_assign rfl) rfl ?_
  refine ol_r (r_assign rfl) rfl ?_
  refine ol_r (r_assign rfl) rfl ?_
  refine ol_nil (to_k0 (fun _ _ h => h) (hK1 _ _ _ ?_))
  clear hK1
  refine wp_seq' fun K2 hK2 => ?_
  refine wp_seq' fun K3 hK3 => ?_
  refine wp_reg ?_
  refine ol_r (r_move rfl) rfl ?_
  refine ol_call rfl rfl cb74 rfl (fun w1 hb1 hs1 hB1 => Calls.mono (effort_CheckStream _ _ _ xs _ (hl.at hb1 hB1)) ?_)
  rintro e w2 ⟨rfl, hb2⟩
  refine After.below rfl hb1 hs1 hB1 hb2 ?_
  clear hb2 hB1 hs1 hb1 w2 w1
  refine ol_r (r_assign rfl) rfl ?_
  refine ol_nil (to_k0 (fun _ _ h => h) (hK3 _ _ _ ?_))
  clear hK3
  refine wp_seq' fun K4 hK4 => ?_
  refine wp_reg ?_
  refine ol_r (r_move rfl) rfl ?_
  refine ol_r (r_neq rfl rfl) rfl ?_
  refine ol_nil (to_k0 (fun _ _ h => h) (hK4 _ _ _ ?_))
  clear hK4
  first | refine wp_condD rfl (fun hc17 => ?_) (fun hc17 => ?_) | refine wp_condN rfl (fun hc17 => ?_) (fun hc17 => ?_) | refine wp_condNB rfl (fun hc17 => ?_) (fun hc17 => ?_) | refine wp_cond' rfl (fun hc17 => ?_) (fun hc17 => ?_)
  · refine wp_seq' fun K5 hK5 => ?_
    refine wp_reg ?_
    refine ol_r (r_move rfl) rfl ?_
    refine ol_r (r_assign rfl) rfl ?_
    refine ol_r (r_assign rfl) rfl ?_
    refine ol_r (r_assign rfl) rfl ?_
    refine ol_nil (to_k0 (fun _ _ h => h) (hK5 _ _ _ ?_))
    clear hK5
    refine hQ.ret (rvs3 (rv_t rfl) (rv_t rfl) (rv_t rfl)) (fun _ _ h => h) fun w hb hs hB hkd => ?_
    first
      | (refine ⟨0, _, false, ?_, rfl, hb⟩
         unfold HardR; rw [if_pos hc17]; exact ⟨rfl, rfl, rfl⟩)
      | (refine ⟨0, 9, false, ?_, rfl, hb⟩
         unfold HardR; rw [if_neg hc17, if_pos (by rw [List.all_eq_false]; exact ⟨mx, hmx.1, by simp; omega⟩)]; exact ⟨rfl, rfl, rfl⟩)
      | (have hin : i = ys.length := by omega
         subst hin
         rw [List.take_length] at hu hv
         refine ⟨0, 0, false, ?_, rfl, hb⟩
         unfold HardR
         rw [if_neg hc17, if_neg (by rw [List.all_eq_true.2 (fun x hx => decide_eq_true (hall x hx))]; simp)]
         first | rw [← hv] | rw [hyy, ← hv]
         rw [if_pos hc47]; exact ⟨rfl, rfl, rfl⟩)
      | (refine ⟨r, 0, true, ?_, rfl, hb⟩
         unfold HardR
         rw [if_neg hc17, if_neg (by rw [List.all_eq_true.2 (fun x hx => decide_eq_true (hall x hx))]; simp)]
         first | rw [← hv] | rw [hyy, ← hv]
         rw [if_neg hc47, ← hu]
         have hj0 : j = 0 := by
           cases j with
           | zero => rfl
           | succ i => exact absurd (by have := Nat.pow_pos (n := i) (show 0 < 2 by omega); rw [Nat.pow_succ]; omega) hc52
         subst hj0
         exact ⟨⟨hr, hlo, by simpa using hhi⟩, rfl, rfl⟩)
  · refine wp_skip' (to_k0 (fun _ _ h => h) (hK2 _ _ _ ?_))
    clear hK2
    refine wp_seq' fun K6 hK6 => ?_
    refine wp_seq' fun K7 hK7 => ?_
    refine wp_reg ?_
    refine ol_r (r_move rfl) rfl ?_
    refine ol_r (r_len rfl sl22) rfl ?_
    refine ol_r (r_gtr rfl rfl) rfl ?_
    refine ol_r (r_move rfl) rfl ?_
    refine ol_split (d := 22) rfl (fun hs22 => ?_) (fun hs22 => ?_)
    · have phs22 := hs22; try simp only [decide_eq_true_eq, decide_eq_false_iff_not, Bool.not_eq_true', Bool.not_eq_false', Bool.not_true, Bool.not_false] at phs22
      refine ol_g rfl rfl hs22 ?_
      refine ol_r (r_move rfl) rfl ?_
      refine ol_g rfl rfl hs22 ?_
      refine ol_call rfl rfl cb65 rfl (fun w1 hb1 hs1 hB1 => ?_)
      refine Calls.mono (slices_Max _ _ _ xs _ (hl.at hb1 hB1) (by omega)) ?_
      rintro e w2 ⟨mx, hmx, rfl, hb2⟩
      refine After.below rfl hb1 hs1 hB1 hb2 ?_
      clear hb2 hB1 hs1 hb1 w2 w1
      refine ol_g rfl rfl hs22 ?_
      refine ol_r (r_gtr rfl rfl) rfl ?_
      refine ol_r (r_pickT rfl hs22 rfl) rfl ?_
      refine ol_nil (to_k0 (fun _ _ h => h) (hK7 _ _ _ ?_))
      clear hK7
      first | refine wp_condD rfl (fun hc26 => ?_) (fun hc26 => ?_) | refine wp_condN rfl (fun hc26 => ?_) (fun hc26 => ?_) | refine wp_condNB rfl (fun hc26 => ?_) (fun hc26 => ?_) | refine wp_cond' rfl (fun hc26 => ?_) (fun hc26 => ?_)
      · refine wp_seq' fun K8 hK8 => ?_
        refine wp_reg ?_
        refine ol_r (r_assign rfl) rfl ?_
        refine ol_r (r_assign rfl) rfl ?_
        refine ol_r (r_assign rfl) rfl ?_
        refine ol_nil (to_k0 (fun _ _ h => h) (hK8 _ _ _ ?_))
        clear hK8
        refine hQ.ret (rvs3 (rv_t rfl) (rv_t rfl) (rv_t rfl)) (fun _ _ h => h) fun w hb hs hB hkd => ?_
        first
          | (refine ⟨0, _, false, ?_, rfl, hb⟩
             unfold HardR; rw [if_pos hc17]; exact ⟨rfl, rfl, rfl⟩)
          | (refine ⟨0, 9, false, ?_, rfl, hb⟩
             unfold HardR; rw [if_neg hc17, if_pos (by rw [List.all_eq_false]; exact ⟨mx, hmx.1, by simp; omega⟩)]; exact ⟨rfl, rfl, rfl⟩)
          | (have hin : i = ys.length := by omega
             subst hin
             rw [List.take_length] at hu hv
             refine ⟨0, 0, false, ?_, rfl, hb⟩
             unfold HardR
             rw [if_neg hc17, if_neg (by rw [List.all_eq_true.2 (fun x hx => decide_eq_true (hall x hx))]; simp)]
             first | rw [← hv] | rw [hyy, ← hv]
             rw [if_pos hc47]; exact ⟨rfl, rfl, rfl⟩)
          | (refine ⟨r, 0, true, ?_, rfl, hb⟩
             unfold HardR
             rw [if_neg hc17, if_neg (by rw [List.all_eq_true.2 (fun x hx => decide_eq_true (hall x hx))]; simp)]
             first | rw [← hv] | rw [hyy, ← hv]
             rw [if_neg hc47, ← hu]
             have hj0 : j = 0 := by
               cases j with
               | zero => rfl
               | succ i => exact absurd (by have := Nat.pow_pos (n := i) (show 0 < 2 by omega); rw [Nat.pow_succ]; omega) hc52
             subst hj0
             exact ⟨⟨hr, hlo, by simpa using hhi⟩, rfl, rfl⟩)
      · refine wp_skip' (to_k0 (fun _ _ h => h) (hK6 _ _ _ ?_))
        clear hK6
        refine wp_seq' fun K9 hK9 => ?_
        refine wp_reg ?_
        refine ol_r (r_assign rfl) rfl ?_
        refine ol_r (r_assign rfl) rfl ?_
        refine ol_nil (to_k0 (fun _ _ h => h) (hK9 _ _ _ ?_))
        clear hK9
        refine wp_seq' fun K10 hK10 => ?_
        refine wp_seq' fun K11 hK11 => ?_
        refine wp_reg ?_
        have hall : ∀ x ∈ xs, x ≤ 10000 := by
          intro x hx
          first
            | (have := hmx.2 x hx; omega)
            | (have := List.length_pos_of_mem hx; omega)
        have hok := streamR_ok (Decidable.not_not.1 hc17)
        have hys := smK_bd hall 30 (by omega)
        have hyl := smK_len xs 30 xs.length
        generalize hyy : smK xs 30 xs.length = ys at *
        refine ol_r (r_move rfl) rfl ?_
        refine ol_call rfl rfl cb99 rfl (fun w1 hb1 hs1 hB1 => Calls.mono (effort_smooth _ _ _ xs 30 _ (hl.at hb1 hB1) (by omega) (Decidable.not_not.1 hc17)) ?_)
        rintro e w2 ⟨a28, n28, c28, rfl, hf28⟩
        refine After.fresh (id := 28) rfl hb1 hs1 hB1 hf28 ?_
        have hl28 := hf28.len; clear hf28 hB1 hs1 hb1 w2 w1
        simp only [hyy] at hl28 ⊢
        subst hl28
        refine ol_r (r_len rfl sl22) rfl ?_
        refine ol_r (r_move rfl) rfl ?_
        refine ol_nil (to_k0 (fun _ _ h => h) (hK11 _ _ _ ?_))
        clear hK11
        refine wp_block' ?_
        apply wp_loopM (σ := Nat × Int × Int) (fun s => s.1 ≤ ys.length ∧ s.2.1 = sI cV (ys.take s.1) ∧ s.2.2 = sI kV (ys.take s.1)) (fun s => [(30, .int .i64 s.1), (6, .int .i64 s.2.1), (7, .int .i64 s.2.2)]) [(2, _), (3, _), (4, _), (28, _), (29, _)] (fun s => []) [(28, _)] (fun s => ys.length - s.1) ((0, 0, 0))
        · try dsimp only
          exact ⟨Nat.zero_le _, by simp [sI], by simp [sI]⟩
        · exact (sub_cons rfl (sub_cons rfl (sub_cons rfl sub_nil)))
        · exact (sub_cons rfl (sub_cons rfl (sub_cons rfl (sub_cons rfl (sub_cons rfl sub_nil)))))
        · exact subH_nil
        · exact (subH_same rfl subH_nil)
        · rintro ⟨i, u, v⟩ ⟨hi, hu, hv⟩
          dsimp only at hi hu hv ⊢
          intro K12 hK12
          refine wp_seq' fun K13 hK13 => ?_
          refine wp_reg ?_
          refine ol_r (r_lss rfl rfl) rfl ?_
          refine ol_nil (to_k0 (fun _ _ h => h) (hK13 _ _ _ ?_))
          clear hK13
          refine wp_seq' fun K14 hK14 => ?_
          first | refine wp_condD rfl (fun hc31 => ?_) (fun hc31 => ?_) | refine wp_condN rfl (fun hc31 => ?_) (fun hc31 => ?_) | refine wp_condNB rfl (fun hc31 => ?_) (fun hc31 => ?_) | refine wp_cond' rfl (fun hc31 => ?_) (fun hc31 => ?_)
          · refine wp_skip' (to_k0 (fun _ _ h => h) (hK14 _ _ _ ?_))
            clear hK14
            refine wp_seq' fun K15 hK15 => ?_
            refine wp_block' ?_
            refine wp_seq' fun K16 hK16 => ?_
            refine wp_reg ?_
            refine ol_ixo (id := 28) encI _ rfl rfl rfl rfl sl22 (by omega) rfl fun x32 hx32 => ?_
            try simp only [Int.toNat_natCast] at hx32
            try simp only [Int.toNat_natCast] at hx32
            refine ol_r (r_ldw rfl (fun w1 hb1 hs1 hB1 => show Loads _ _ _ _ (.int .i64 x32) from ld_own (id := 28) hs1 rfl rfl ty3 hx32)) rfl ?_
            refine ol_r (r_assign rfl) rfl ?_
            refine ol_nil (to_k0 (fun _ _ h => h) (hK16 _ _ _ ?_))
            clear hK16
            refine wp_seq' fun K17 hK17 => ?_
            refine wp_reg ?_
            have hxb := hys _ (List.mem_of_getElem? hx32)
            have cb := sI_bd cV 1000000000000 (by omega) (ys.take i) (fun y hy => cV_bd (hys y (List.mem_of_mem_take hy)).2)
            have kb := sI_bd kV 1 (by omega) (ys.take i) (fun y hy => kV_bd y)
            rw [List.length_take] at cb kb
            refine ol_r (r_move rfl) rfl ?_
            refine ol_r (r_geq rfl rfl) rfl ?_
            refine ol_nil (to_k0 (fun _ _ h => h) (hK17 _ _ _ ?_))
            clear hK17
            first | refine wp_condD rfl (fun hc35 => ?_) (fun hc35 => ?_) | refine wp_condN rfl (fun hc35 => ?_) (fun hc35 => ?_) | refine wp_condNB rfl (fun hc35 => ?_) (fun hc35 => ?_) | refine wp_cond' rfl (fun hc35 => ?_) (fun hc35 => ?_)
            · refine wp_reg ?_
              refine ol_r (r_move rfl) rfl ?_
              refine ol_r (r_move rfl) rfl ?_
              refine ol_r (r_move rfl) rfl ?_
              have h0 : 0 ≤ x32 := hc35
              have s1 := mul_bd (A := 10000) (B := 10000) h0 (by omega) h0 (by omega)
              have s2 := mul_bd (A := 100000000) (B := 10000) s1.1 (by omega) h0 (by omega)
              refine ol_r (r_mul rfl rfl (by omega)) rfl ?_
              refine ol_r (r_move rfl) rfl ?_
              refine ol_r (r_mul rfl rfl (by omega)) rfl ?_
              refine ol_r (r_add rfl rfl (by omega)) rfl ?_
              refine ol_r (r_move rfl) rfl ?_
              refine ol_r (r_add rfl rfl (by omega)) rfl ?_
              refine ol_r (r_assign rfl) rfl ?_
              refine ol_r (r_assign rfl) rfl ?_
              refine ol_nil (to_k0 (fun _ _ h => h) (hK15 _ _ _ ?_))
              clear hK15
              refine wp_reg ?_
              refine ol_r (r_add rfl rfl (by omega)) rfl ?_
              refine ol_r (r_move rfl) rfl ?_
              refine ol_nil (to_k0 (fun _ _ h => h) (hK12 ((i + 1, _, _)) _ _ ?_ ?_ (sub_cons rfl (sub_cons rfl (sub_cons rfl sub_nil))) (sub_cons rfl (sub_cons rfl (sub_cons rfl (sub_cons rfl (sub_cons rfl sub_nil))))) (by exact subH_nil) (subH_same rfl subH_nil)))
              · try dsimp only
                first
                  | (have e1 : kV x32 = 1 := if_pos hc35
                     have e2 : cV x32 = x32 * x32 * x32 := if_pos hc35
                     exact ⟨by omega, by rw [sI_take cV hx32, hu, e2], by rw [sI_take kV hx32, hv, e1]⟩)
                  | (have e1 : kV x32 = 0 := if_neg hc35
                     have e2 : cV x32 = 0 := if_neg hc35
                     exact ⟨by omega, by rw [sI_take cV hx32, hu, e2]; omega, by rw [sI_take kV hx32, hv, e1]; omega⟩)
              · try dsimp only
                omega
            · refine wp_skip' (to_k0 (fun _ _ h => h) (hK15 _ _ _ ?_))
              clear hK15
              refine wp_reg ?_
              refine ol_r (r_add rfl rfl (by omega)) rfl ?_
              refine ol_r (r_move rfl) rfl ?_
              refine ol_nil (to_k0 (fun _ _ h => h) (hK12 ((i + 1, _, _)) _ _ ?_ ?_ (sub_cons rfl (sub_cons rfl (sub_cons rfl sub_nil))) (sub_cons rfl (sub_cons rfl (sub_cons rfl (sub_cons rfl (sub_cons rfl sub_nil))))) (by exact subH_nil) (subH_same rfl subH_nil)))
              · try dsimp only
                first
                  | (have e1 : kV x32 = 1 := if_pos hc35
                     have e2 : cV x32 = x32 * x32 * x32 := if_pos hc35
                     exact ⟨by omega, by rw [sI_take cV hx32, hu, e2], by rw [sI_take kV hx32, hv, e1]⟩)
                  | (have e1 : kV x32 = 0 := if_neg hc35
                     have e2 : cV x32 = 0 := if_neg hc35
                     exact ⟨by omega, by rw [sI_take cV hx32, hu, e2]; omega, by rw [sI_take kV hx32, hv, e1]; omega⟩)
              · try dsimp only
                omega
          · refine wp_exit' (to_k0 (fun _ _ h => h) (hK10 _ _ _ ?_))
            clear hK10
            refine wp_seq' fun K18 hK18 => ?_
            refine wp_seq' fun K19 hK19 => ?_
            refine wp_reg ?_
            refine ol_r (r_move rfl) rfl ?_
            refine ol_r (r_eql rfl rfl) rfl ?_
            refine ol_nil (to_k0 (fun _ _ h => h) (hK19 _ _ _ ?_))
            clear hK19
            first | refine wp_condD rfl (fun hc47 => ?_) (fun hc47 => ?_) | refine wp_condN rfl (fun hc47 => ?_) (fun hc47 => ?_) | refine wp_condNB rfl (fun hc47 => ?_) (fun hc47 => ?_) | refine wp_cond' rfl (fun hc47 => ?_) (fun hc47 => ?_)
            · refine wp_seq' fun K20 hK20 => ?_
              refine wp_reg ?_
              refine ol_r (r_assign rfl) rfl ?_
              refine ol_r (r_assign rfl) rfl ?_
              refine ol_r (r_assign rfl) rfl ?_
              refine ol_nil (to_k0 (fun _ _ h => h) (hK20 _ _ _ ?_))
              clear hK20
              refine hQ.ret (rvs3 (rv_t rfl) (rv_t rfl) (rv_t rfl)) (fun _ _ h => h) fun w hb hs hB hkd => ?_
              first
                | (refine ⟨0, _, false, ?_, rfl, hb⟩
                   unfold HardR; rw [if_pos hc17]; exact ⟨rfl, rfl, rfl⟩)
                | (refine ⟨0, 9, false, ?_, rfl, hb⟩
                   unfold HardR; rw [if_neg hc17, if_pos (by rw [List.all_eq_false]; exact ⟨mx, hmx.1, by simp; omega⟩)]; exact ⟨rfl, rfl, rfl⟩)
                | (have hin : i = ys.length := by omega
                   subst hin
                   rw [List.take_length] at hu hv
                   refine ⟨0, 0, false, ?_, rfl, hb⟩
                   unfold HardR
                   rw [if_neg hc17, if_neg (by rw [List.all_eq_true.2 (fun x hx => decide_eq_true (hall x hx))]; simp)]
                   first | rw [← hv] | rw [hyy, ← hv]
                   rw [if_pos hc47]; exact ⟨rfl, rfl, rfl⟩)
                | (refine ⟨r, 0, true, ?_, rfl, hb⟩
                   unfold HardR
                   rw [if_neg hc17, if_neg (by rw [List.all_eq_true.2 (fun x hx => decide_eq_true (hall x hx))]; simp)]
                   first | rw [← hv] | rw [hyy, ← hv]
                   rw [if_neg hc47, ← hu]
                   have hj0 : j = 0 := by
                     cases j with
                     | zero => rfl
                     | succ i => exact absurd (by have := Nat.pow_pos (n := i) (show 0 < 2 by omega); rw [Nat.pow_succ]; omega) hc52
                   subst hj0
                   exact ⟨⟨hr, hlo, by simpa using hhi⟩, rfl, rfl⟩)
            · refine wp_skip' (to_k0 (fun _ _ h => h) (hK18 _ _ _ ?_))
              clear hK18
              refine wp_seq' fun K21 hK21 => ?_
              refine wp_reg ?_
              have hin : i = ys.length := by omega
              subst hin
              rw [List.take_length] at hu hv
              have cb := sI_bd cV 1000000000000 (by omega) ys (fun y hy => cV_bd (hys y hy).2)
              have kb := sI_bd kV 1 (by omega) ys (fun y hy => kV_bd y)
              have hmean : u / v ≤ 1000000000000 := by
                rw [hu, hv]
                exact Int.ediv_le_of_le_mul (by omega) (cV_kV ys (fun y hy => (hys y hy).2))
              have hmean0 : 0 ≤ u / v := Int.ediv_nonneg (by omega) (by omega)
              refine ol_r (r_move rfl) rfl ?_
              refine ol_r (r_move rfl) rfl ?_
              first | refine ol_r (r_quo rfl rfl (by omega)) rfl ?_ | refine ol_r (r_tquo rfl rfl (by omega)) rfl ?_
              refine ol_r (r_assign rfl) rfl ?_
              refine ol_r (r_assign rfl) rfl ?_
              refine ol_nil (to_k0 (fun _ _ h => h) (hK21 _ _ _ ?_))
              clear hK21
              refine wp_seq' fun K22 hK22 => ?_
              refine wp_seq' fun K23 hK23 => ?_
              refine wp_reg ?_
              refine ol_r (r_assign rfl) rfl ?_
              refine ol_nil (to_k0 (fun _ _ h => h) (hK23 _ _ _ ?_))
              clear hK23
              refine wp_block' ?_
              apply wp_loopM (σ := Nat × Int) (fun s => s.1 ≤ 15 ∧ 0 ≤ s.2 ∧ s.2 + (2 ^ s.1 : Nat) ≤ 32768 ∧ s.2 * s.2 * s.2 ≤ u / v ∧ u / v < (s.2 + (2 ^ s.1 : Nat)) * (s.2 + (2 ^ s.1 : Nat)) * (s.2 + (2 ^ s.1 : Nat))) (fun s => [(12, .int .i64 ((2 ^ s.1 / 2 : Nat) : Int)), (11, .int .i64 s.2)]) [(2, _), (3, _), (4, _), (10, _)] (fun s => []) [(28, _)] (fun s => s.1) ((15, 0))
              · try dsimp only
                exact ⟨by omega, by omega, by decide, by simpa using hmean0, by simp; omega⟩
              · exact (sub_cons rfl (sub_cons rfl sub_nil))
              · exact (sub_cons rfl (sub_cons rfl (sub_cons rfl (sub_cons rfl sub_nil))))
              · exact subH_nil
              · exact (subH_same rfl subH_nil)
              · rintro ⟨j, r⟩ ⟨hj, hr, hrb, hlo, hhi⟩
                dsimp only at hj hr hrb hlo hhi ⊢
                intro K24 hK24
                refine wp_seq' fun K25 hK25 => ?_
                refine wp_seq' fun K26 hK26 => ?_
                refine wp_reg ?_
                refine ol_r (r_move rfl) rfl ?_
                refine ol_r (r_gtr rfl rfl) rfl ?_
                refine ol_nil (to_k0 (fun _ _ h => h) (hK26 _ _ _ ?_))
                clear hK26
                first | refine wp_condD rfl (fun hc52 => ?_) (fun hc52 => ?_) | refine wp_condN rfl (fun hc52 => ?_) (fun hc52 => ?_) | refine wp_condNB rfl (fun hc52 => ?_) (fun hc52 => ?_) | refine wp_cond' rfl (fun hc52 => ?_) (fun hc52 => ?_)
                · refine wp_skip' (to_k0 (fun _ _ h => h) (hK25 _ _ _ ?_))
                  clear hK25
                  refine wp_seq' fun K27 hK27 => ?_
                  refine wp_block' ?_
                  refine wp_seq' fun K28 hK28 => ?_
                  refine wp_reg ?_
                  refine ol_r (r_move rfl) rfl ?_
                  refine ol_r (r_move rfl) rfl ?_
                  obtain ⟨i, rfl⟩ : ∃ i, j = i + 1 := by
                    cases j with
                    | zero => simp at hc52
                    | succ i => exact ⟨i, rfl⟩
                  have hp : 2 ^ (i + 1) / 2 = 2 ^ i := by rw [Nat.pow_succ]; omega
                  have hp2 : 2 ^ (i + 1) = 2 * 2 ^ i := by rw [Nat.pow_succ]; omega
                  simp only [hp]
                  have hr0 : 0 ≤ r + ((2 ^ i : Nat) : Int) := by omega
                  have s1 := mul_bd (A := 32768) (B := 32768) hr0 (by omega) hr0 (by omega)
                  have s2 := mul_bd (A := 1073741824) (B := 32768) s1.1 (by omega) hr0 (by omega)
                  refine ol_r (r_add rfl rfl (by omega)) rfl ?_
                  refine ol_r (r_assign rfl) rfl ?_
                  refine ol_nil (to_k0 (fun _ _ h => h) (hK28 _ _ _ ?_))
                  clear hK28
                  refine wp_seq' fun K29 hK29 => ?_
                  refine wp_reg ?_
                  refine ol_r (r_move rfl) rfl ?_
                  refine ol_r (r_move rfl) rfl ?_
                  refine ol_r (r_mul rfl rfl (by omega)) rfl ?_
                  refine ol_r (r_move rfl) rfl ?_
                  refine ol_r (r_mul rfl rfl (by omega)) rfl ?_
                  refine ol_r (r_move rfl) rfl ?_
                  refine ol_r (r_leq rfl rfl) rfl ?_
                  refine ol_nil (to_k0 (fun _ _ h => h) (hK29 _ _ _ ?_))
                  clear hK29
                  first | refine wp_condD rfl (fun hc64 => ?_) (fun hc64 => ?_) | refine wp_condN rfl (fun hc64 => ?_) (fun hc64 => ?_) | refine wp_condNB rfl (fun hc64 => ?_) (fun hc64 => ?_) | refine wp_cond' rfl (fun hc64 => ?_) (fun hc64 => ?_)
                  · refine wp_reg ?_
                    refine ol_r (r_move rfl) rfl ?_
                    refine ol_r (r_assign rfl) rfl ?_
                    refine ol_nil (to_k0 (fun _ _ h => h) (hK27 _ _ _ ?_))
                    clear hK27
                    refine wp_reg ?_
                    refine ol_r (r_move rfl) rfl ?_
                    first | refine ol_r (r_quo rfl rfl (by omega)) rfl ?_ | refine ol_r (r_tquo rfl rfl (by omega)) rfl ?_
                    refine ol_r (r_assign rfl) rfl ?_
                    refine ol_nil (to_k0 (fun _ _ h => h) (hK24 ((i, _)) _ _ ?_ ?_ (sub_cons (by first | rfl | (rfl)) (sub_cons (by first | rfl | (rfl)) sub_nil)) (sub_cons rfl (sub_cons rfl (sub_cons rfl (sub_cons rfl sub_nil)))) (by exact subH_nil) (subH_same rfl subH_nil)))
                    · try dsimp only
                      have hs2 : r + ((2 ^ (i + 1) : Nat) : Int) = r + ((2 ^ i : Nat) : Int) + ((2 ^ i : Nat) : Int) := by omega
                      rw [hs2] at hhi
                      first
                        | exact ⟨by omega, by omega, by omega, hc64, hhi⟩
                        | exact ⟨by omega, hr, by omega, hlo, Int.not_le.1 hc64⟩
                    · try dsimp only
                      omega
                  · refine wp_skip' (to_k0 (fun _ _ h => h) (hK27 _ _ _ ?_))
                    clear hK27
                    refine wp_reg ?_
                    refine ol_r (r_move rfl) rfl ?_
                    first | refine ol_r (r_quo rfl rfl (by omega)) rfl ?_ | refine ol_r (r_tquo rfl rfl (by omega)) rfl ?_
                    refine ol_r (r_assign rfl) rfl ?_
                    refine ol_nil (to_k0 (fun _ _ h => h) (hK24 ((i, _)) _ _ ?_ ?_ (sub_cons (by first | rfl | (rfl)) (sub_cons (by first | rfl | (rfl)) sub_nil)) (sub_cons rfl (sub_cons rfl (sub_cons rfl (sub_cons rfl sub_nil)))) (by exact subH_nil) (subH_same rfl subH_nil)))
                    · try dsimp only
                      have hs2 : r + ((2 ^ (i + 1) : Nat) : Int) = r + ((2 ^ i : Nat) : Int) + ((2 ^ i : Nat) : Int) := by omega
                      rw [hs2] at hhi
                      first
                        | exact ⟨by omega, by omega, by omega, hc64, hhi⟩
                        | exact ⟨by omega, hr, by omega, hlo, Int.not_le.1 hc64⟩
                    · try dsimp only
                      omega
                · refine wp_exit' (to_k0 (fun _ _ h => h) (hK22 _ _ _ ?_))
                  clear hK22
                  refine wp_seq' fun K30 hK30 => ?_
                  refine wp_reg ?_
                  refine ol_r (r_move rfl) rfl ?_
                  refine ol_r (r_assign rfl) rfl ?_
                  refine ol_r (r_assign rfl) rfl ?_
                  refine ol_r (r_assign rfl) rfl ?_
                  refine ol_nil (to_k0 (fun _ _ h => h) (hK30 _ _ _ ?_))
                  clear hK30
                  refine hQ.ret (rvs3 (rv_t rfl) (rv_t rfl) (rv_t rfl)) (fun _ _ h => h) fun w hb hs hB hkd => ?_
                  first
                    | (refine ⟨0, _, false, ?_, rfl, hb⟩
                       unfold HardR; rw [if_pos hc17]; exact ⟨rfl, rfl, rfl⟩)
                    | (refine ⟨0, 9, false, ?_, rfl, hb⟩
                       unfold HardR; rw [if_neg hc17, if_pos (by rw [List.all_eq_false]; exact ⟨mx, hmx.1, by simp; omega⟩)]; exact ⟨rfl, rfl, rfl⟩)
                    | (have hin : i = ys.length := by omega
                       subst hin
                       rw [List.take_length] at hu hv
                       refine ⟨0, 0, false, ?_, rfl, hb⟩
                       unfold HardR
                       rw [if_neg hc17, if_neg (by rw [List.all_eq_true.2 (fun x hx => decide_eq_true (hall x hx))]; simp)]
                       first | rw [← hv] | rw [hyy, ← hv]
                       rw [if_pos hc47]; exact ⟨rfl, rfl, rfl⟩)
                    | (refine ⟨r, 0, true, ?_, rfl, hb⟩
                       unfold HardR
                       rw [if_neg hc17, if_neg (by rw [List.all_eq_true.2 (fun x hx => decide_eq_true (hall x hx))]; simp)]
                       first | rw [← hv] | rw [hyy, ← hv]
                       rw [if_neg hc47, ← hu]
                       have hj0 : j = 0 := by
                         cases j with
                         | zero => rfl
                         | succ i => exact absurd (by have := Nat.pow_pos (n := i) (show 0 < 2 by omega); rw [Nat.pow_succ]; omega) hc52
                       subst hj0
                       exact ⟨⟨hr, hlo, by simpa using hhi⟩, rfl, rfl⟩)
    · have phs22 := hs22; try simp only [decide_eq_true_eq, decide_eq_false_iff_not, Bool.not_eq_true', Bool.not_eq_false', Bool.not_true, Bool.not_false] at phs22
      refine ol_s rfl rfl hs22 rfl ?_
      refine ol_s rfl rfl hs22 rfl ?_
      refine ol_s rfl rfl hs22 rfl ?_
      refine ol_r (r_pickF rfl hs22 rfl) rfl ?_
      refine ol_nil (to_k0 (fun _ _ h => h) (hK7 _ _ _ ?_))
      clear hK7
      refine wp_condF rfl ?_
      refine wp_skip' (to_k0 (fun _ _ h => h) (hK6 _ _ _ ?_))
      clear hK6
      refine wp_seq' fun K31 hK31 => ?_
      refine wp_reg ?_
      refine ol_r (r_assign rfl) rfl ?_
      refine ol_r (r_assign rfl) rfl ?_
      refine ol_nil (to_k0 (fun _ _ h => h) (hK31 _ _ _ ?_))
      clear hK31
      refine wp_seq' fun K32 hK32 => ?_
      refine wp_seq' fun K33 hK33 => ?_
      refine wp_reg ?_
      have hall : ∀ x ∈ xs, x ≤ 10000 := by
        intro x hx
        first
          | (have := hmx.2 x hx; omega)
          | (have := List.length_pos_of_mem hx; omega)
      have hok := streamR_ok (Decidable.not_not.1 hc17)
      have hys := smK_bd hall 30 (by omega)
      have hyl := smK_len xs 30 xs.length
      generalize hyy : smK xs 30 xs.length = ys at *
      refine ol_r (r_move rfl) rfl ?_
      refine ol_call rfl rfl cb99 rfl (fun w1 hb1 hs1 hB1 => Calls.mono (effort_smooth _ _ _ xs 30 _ (hl.at hb1 hB1) (by omega) (Decidable.not_not.1 hc17)) ?_)
      rintro e w2 ⟨a28, n28, c28, rfl, hf28⟩
      refine After.fresh (id := 28) rfl hb1 hs1 hB1 hf28 ?_
      have hl28 := hf28.len; clear hf28 hB1 hs1 hb1 w2 w1
      simp only [hyy] at hl28 ⊢
      subst hl28
      refine ol_r (r_len rfl sl22) rfl ?_
      refine ol_r (r_move rfl) rfl ?_
      refine ol_nil (to_k0 (fun _ _ h => h) (hK33 _ _ _ ?_))
      clear hK33
      refine wp_block' ?_
      apply wp_loopM (σ := Nat × Int × Int) (fun s => s.1 ≤ ys.length ∧ s.2.1 = sI cV (ys.take s.1) ∧ s.2.2 = sI kV (ys.take s.1)) (fun s => [(30, .int .i64 s.1), (6, .int .i64 s.2.1), (7, .int .i64 s.2.2)]) [(2, _), (3, _), (4, _), (28, _), (29, _)] (fun s => []) [(28, _)] (fun s => ys.length - s.1) ((0, 0, 0))
      · try dsimp only
        exact ⟨Nat.zero_le _, by simp [sI], by simp [sI]⟩
      · exact (sub_cons rfl (sub_cons rfl (sub_cons rfl sub_nil)))
      · exact (sub_cons rfl (sub_cons rfl (sub_cons rfl (sub_cons rfl (sub_cons rfl sub_nil)))))
      · exact subH_nil
      · exact (subH_same rfl subH_nil)
      · rintro ⟨i, u, v⟩ ⟨hi, hu, hv⟩
        dsimp only at hi hu hv ⊢
        intro K34 hK34
        refine wp_seq' fun K35 hK35 => ?_
        refine wp_reg ?_
        refine ol_r (r_lss rfl rfl) rfl ?_
        refine ol_nil (to_k0 (fun _ _ h => h) (hK35 _ _ _ ?_))
        clear hK35
        refine wp_seq' fun K36 hK36 => ?_
        first | refine wp_condD rfl (fun hc31 => ?_) (fun hc31 => ?_) | refine wp_condN rfl (fun hc31 => ?_) (fun hc31 => ?_) | refine wp_condNB rfl (fun hc31 => ?_) (fun hc31 => ?_) | refine wp_cond' rfl (fun hc31 => ?_) (fun hc31 => ?_)
        · refine wp_skip' (to_k0 (fun _ _ h => h) (hK36 _ _ _ ?_))
          clear hK36
          refine wp_seq' fun K37 hK37 => ?_
          refine wp_block' ?_
          refine wp_seq' fun K38 hK38 => ?_
          refine wp_reg ?_
          refine ol_ixo (id := 28) encI _ rfl rfl rfl rfl sl22 (by omega) rfl fun x32 hx32 => ?_
          try simp only [Int.toNat_natCast] at hx32
          try simp only [Int.toNat_natCast] at hx32
          refine ol_r (r_ldw rfl (fun w1 hb1 hs1 hB1 => show Loads _ _ _ _ (.int .i64 x32) from ld_own (id := 28) hs1 rfl rfl ty3 hx32)) rfl ?_
          refine ol_r (r_assign rfl) rfl ?_
          refine ol_nil (to_k0 (fun _ _ h => h) (hK38 _ _ _ ?_))
          clear hK38
          refine wp_seq' fun K39 hK39 => ?_
          refine wp_reg ?_
          have hxb := hys _ (List.mem_of_getElem? hx32)
          have cb := sI_bd cV 1000000000000 (by omega) (ys.take i) (fun y hy => cV_bd (hys y (List.mem_of_mem_take hy)).2)
          have kb := sI_bd kV 1 (by omega) (ys.take i) (fun y hy => kV_bd y)
          rw [List.length_take] at cb kb
          refine ol_r (r_move rfl) rfl ?_
          refine ol_r (r_geq rfl rfl) rfl ?_
          refine ol_nil (to_k0 (fun _ _ h => h) (hK39 _ _ _ ?_))
          clear hK39
          first | refine wp_condD rfl (fun hc35 => ?_) (fun hc35 => ?_) | refine wp_condN rfl (fun hc35 => ?_) (fun hc35 => ?_) | refine wp_condNB rfl (fun hc35 => ?_) (fun hc35 => ?_) | refine wp_cond' rfl (fun hc35 => ?_) (fun hc35 => ?_)
          · refine wp_reg ?_
            refine ol_r (r_move rfl) rfl ?_
            refine ol_r (r_move rfl) rfl ?_
            refine ol_r (r_move rfl) rfl ?_
            have h0 : 0 ≤ x32 := hc35
            have s1 := mul_bd (A := 10000) (B := 10000) h0 (by omega) h0 (by omega)
            have s2 := mul_bd (A := 100000000) (B := 10000) s1.1 (by omega) h0 (by omega)
            refine ol_r (r_mul rfl rfl (by omega)) rfl ?_
            refine ol_r (r_move rfl) rfl ?_
            refine ol_r (r_mul rfl rfl (by omega)) rfl ?_
            refine ol_r (r_add rfl rfl (by omega)) rfl ?_
            refine ol_r (r_move rfl) rfl ?_
            refine ol_r (r_add rfl rfl (by omega)) rfl ?_
            refine ol_r (r_assign rfl) rfl ?_
            refine ol_r (r_assign rfl) rfl ?_
            refine ol_nil (to_k0 (fun _ _ h => h) (hK37 _ _ _ ?_))
            clear hK37
            refine wp_reg ?_
            refine ol_r (r_add rfl rfl (by omega)) rfl ?_
            refine ol_r (r_move rfl) rfl ?_
            refine ol_nil (to_k0 (fun _ _ h => h) (hK34 ((i + 1, _, _)) _ _ ?_ ?_ (sub_cons rfl (sub_cons rfl (sub_cons rfl sub_nil))) (sub_cons rfl (sub_cons rfl (sub_cons rfl (sub_cons rfl (sub_cons rfl sub_nil))))) (by exact subH_nil) (subH_same rfl subH_nil)))
            · try dsimp only
              first
                | (have e1 : kV x32 = 1 := if_pos hc35
                   have e2 : cV x32 = x32 * x32 * x32 := if_pos hc35
                   exact ⟨by omega, by rw [sI_take cV hx32, hu, e2], by rw [sI_take kV hx32, hv, e1]⟩)
                | (have e1 : kV x32 = 0 := if_neg hc35
                   have e2 : cV x32 = 0 := if_neg hc35
                   exact ⟨by omega, by rw [sI_take cV hx32, hu, e2]; omega, by rw [sI_take kV hx32, hv, e1]; omega⟩)
            · try dsimp only
              omega
          · refine wp_skip' (to_k0 (fun _ _ h => h) (hK37 _ _ _ ?_))
            clear hK37
            refine wp_reg ?_
            refine ol_r (r_add rfl rfl (by omega)) rfl ?_
            refine ol_r (r_move rfl) rfl ?_
            refine ol_nil (to_k0 (fun _ _ h => h) (hK34 ((i + 1, _, _)) _ _ ?_ ?_ (sub_cons rfl (sub_cons rfl (sub_cons rfl sub_nil))) (sub_cons rfl (sub_cons rfl (sub_cons rfl (sub_cons rfl (sub_cons rfl sub_nil))))) (by exact subH_nil) (subH_same rfl subH_nil)))
            · try dsimp only
              first
                | (have e1 : kV x32 = 1 := if_pos hc35
                   have e2 : cV x32 = x32 * x32 * x32 := if_pos hc35
                   exact ⟨by omega, by rw [sI_take cV hx32, hu, e2], by rw [sI_take kV hx32, hv, e1]⟩)
                | (have e1 : kV x32 = 0 := if_neg hc35
                   have e2 : cV x32 = 0 := if_neg hc35
                   exact ⟨by omega, by rw [sI_take cV hx32, hu, e2]; omega, by rw [sI_take kV hx32, hv, e1]; omega⟩)
            · try dsimp only
              omega
        · refine wp_exit' (to_k0 (fun _ _ h => h) (hK32 _ _ _ ?_))
          clear hK32
          refine wp_seq' fun K40 hK40 => ?_
          refine wp_seq' fun K41 hK41 => ?_
          refine wp_reg ?_
          refine ol_r (r_move rfl) rfl ?_
          refine ol_r (r_eql rfl rfl) rfl ?_
          refine ol_nil (to_k0 (fun _ _ h => h) (hK41 _ _ _ ?_))
          clear hK41
          first | refine wp_condD rfl (fun hc47 => ?_) (fun hc47 => ?_) | refine wp_condN rfl (fun hc47 => ?_) (fun hc47 => ?_) | refine wp_condNB rfl (fun hc47 => ?_) (fun hc47 => ?_) | refine wp_cond' rfl (fun hc47 => ?_) (fun hc47 => ?_)
          · refine wp_seq' fun K42 hK42 => ?_
            refine wp_reg ?_
            refine ol_r (r_assign rfl) rfl ?_
            refine ol_r (r_assign rfl) rfl ?_
            refine ol_r (r_assign rfl) rfl ?_
            refine ol_nil (to_k0 (fun _ _ h => h) (hK42 _ _ _ ?_))
            clear hK42
            refine hQ.ret (rvs3 (rv_t rfl) (rv_t rfl) (rv_t rfl)) (fun _ _ h => h) fun w hb hs hB hkd => ?_
            first
              | (refine ⟨0, _, false, ?_, rfl, hb⟩
                 unfold HardR; rw [if_pos hc17]; exact ⟨rfl, rfl, rfl⟩)
              | (refine ⟨0, 9, false, ?_, rfl, hb⟩
                 unfold HardR; rw [if_neg hc17, if_pos (by rw [List.all_eq_false]; exact ⟨mx, hmx.1, by simp; omega⟩)]; exact ⟨rfl, rfl, rfl⟩)
              | (have hin : i = ys.length := by omega
                 subst hin
                 rw [List.take_length] at hu hv
                 refine ⟨0, 0, false, ?_, rfl, hb⟩
                 unfold HardR
                 rw [if_neg hc17, if_neg (by rw [List.all_eq_true.2 (fun x hx => decide_eq_true (hall x hx))]; simp)]
                 first | rw [← hv] | rw [hyy, ← hv]
                 rw [if_pos hc47]; exact ⟨rfl, rfl, rfl⟩)
              | (refine ⟨r, 0, true, ?_, rfl, hb⟩
                 unfold HardR
                 rw [if_neg hc17, if_neg (by rw [List.all_eq_true.2 (fun x hx => decide_eq_true (hall x hx))]; simp)]
                 first | rw [← hv] | rw [hyy, ← hv]
                 rw [if_neg hc47, ← hu]
                 have hj0 : j = 0 := by
                   cases j with
                   | zero => rfl
                   | succ i => exact absurd (by have := Nat.pow_pos (n := i) (show 0 < 2 by omega); rw [Nat.pow_succ]; omega) hc52
                 subst hj0
                 exact ⟨⟨hr, hlo, by simpa using hhi⟩, rfl, rfl⟩)
          · refine wp_skip' (to_k0 (fun _ _ h => h) (hK40 _ _ _ ?_))
            clear hK40
            refine wp_seq' fun K43 hK43 => ?_
            refine wp_reg ?_
            have hin : i = ys.length := by omega
            subst hin
            rw [List.take_length] at hu hv
            have cb := sI_bd cV 1000000000000 (by omega) ys (fun y hy => cV_bd (hys y hy).2)
            have kb := sI_bd kV 1 (by omega) ys (fun y hy => kV_bd y)
            have hmean : u / v ≤ 1000000000000 := by
              rw [hu, hv]
              exact Int.ediv_le_of_le_mul (by omega) (cV_kV ys (fun y hy => (hys y hy).2))
            have hmean0 : 0 ≤ u / v := Int.ediv_nonneg (by omega) (by omega)
            refine ol_r (r_move rfl) rfl ?_
            refine ol_r (r_move rfl) rfl ?_
            first | refine ol_r (r_quo rfl rfl (by omega)) rfl ?_ | refine ol_r (r_tquo rfl rfl (by omega)) rfl ?_
            refine ol_r (r_assign rfl) rfl ?_
            refine ol_r (r_assign rfl) rfl ?_
            refine ol_nil (to_k0 (fun _ _ h => h) (hK43 _ _ _ ?_))
            clear hK43
            refine wp_seq' fun K44 hK44 => ?_
            refine wp_seq' fun K45 hK45 => ?_
            refine wp_reg ?_
            refine ol_r (r_assign rfl) rfl ?_
            refine ol_nil (to_k0 (fun _ _ h => h) (hK45 _ _ _ ?_))
            clear hK45
            refine wp_block' ?_
            apply wp_loopM (σ := Nat × Int) (fun s => s.1 ≤ 15 ∧ 0 ≤ s.2 ∧ s.2 + (2 ^ s.1 : Nat) ≤ 32768 ∧ s.2 * s.2 * s.2 ≤ u / v ∧ u / v < (s.2 + (2 ^ s.1 : Nat)) * (s.2 + (2 ^ s.1 : Nat)) * (s.2 + (2 ^ s.1 : Nat))) (fun s => [(12, .int .i64 ((2 ^ s.1 / 2 : Nat) : Int)), (11, .int .i64 s.2)]) [(2, _), (3, _), (4, _), (10, _)] (fun s => []) [(28, _)] (fun s => s.1) ((15, 0))
            · try dsimp only
              exact ⟨by omega, by omega, by decide, by simpa using hmean0, by simp; omega⟩
            · exact (sub_cons rfl (sub_cons rfl sub_nil))
            · exact (sub_cons rfl (sub_cons rfl (sub_cons rfl (sub_cons rfl sub_nil))))
            · exact subH_nil
            · exact (subH_same rfl subH_nil)
            · rintro ⟨j, r⟩ ⟨hj, hr, hrb, hlo, hhi⟩
              dsimp only at hj hr hrb hlo hhi ⊢
              intro K46 hK46
              refine wp_seq' fun K47 hK47 => ?_
              refine wp_seq' fun K48 hK48 => ?_
              refine wp_reg ?_
              refine ol_r (r_move rfl) rfl ?_
              refine ol_r (r_gtr rfl rfl) rfl ?_
              refine ol_nil (to_k0 (fun _ _ h => h) (hK48 _ _ _ ?_))
              clear hK48
              first | refine wp_condD rfl (fun hc52 => ?_) (fun hc52 => ?_) | refine wp_condN rfl (fun hc52 => ?_) (fun hc52 => ?_) | refine wp_condNB rfl (fun hc52 => ?_) (fun hc52 => ?_) | refine wp_cond' rfl (fun hc52 => ?_) (fun hc52 => ?_)
              · refine wp_skip' (to_k0 (fun _ _ h => h) (hK47 _ _ _ ?_))
                clear hK47
                refine wp_seq' fun K49 hK49 => ?_
                refine wp_block' ?_
                refine wp_seq' fun K50 hK50 => ?_
                refine wp_reg ?_
                refine ol_r (r_move rfl) rfl ?_
                refine ol_r (r_move rfl) rfl ?_
                obtain ⟨i, rfl⟩ : ∃ i, j = i + 1 := by
                  cases j with
                  | zero => simp at hc52
                  | succ i => exact ⟨i, rfl⟩
                have hp : 2 ^ (i + 1) / 2 = 2 ^ i := by rw [Nat.pow_succ]; omega
                have hp2 : 2 ^ (i + 1) = 2 * 2 ^ i := by rw [Nat.pow_succ]; omega
                simp only [hp]
                have hr0 : 0 ≤ r + ((2 ^ i : Nat) : Int) := by omega
                have s1 := mul_bd (A := 32768) (B := 32768) hr0 (by omega) hr0 (by omega)
                have s2 := mul_bd (A := 1073741824) (B := 32768) s1.1 (by omega) hr0 (by omega)
                refine ol_r (r_add rfl rfl (by omega)) rfl ?_
                refine ol_r (r_assign rfl) rfl ?_
                refine ol_nil (to_k0 (fun _ _ h => h) (hK50 _ _ _ ?_))
                clear hK50
                refine wp_seq' fun K51 hK51 => ?_
                refine wp_reg ?_
                refine ol_r (r_move rfl) rfl ?_
                refine ol_r (r_move rfl) rfl ?_
                refine ol_r (r_mul rfl rfl (by omega)) rfl ?_
                refine ol_r (r_move rfl) rfl ?_
                refine ol_r (r_mul rfl rfl (by omega)) rfl ?_
                refine ol_r (r_move rfl) rfl ?_
                refine ol_r (r_leq rfl rfl) rfl ?_
                refine ol_nil (to_k0 (fun _ _ h => h) (hK51 _ _ _ ?_))
                clear hK51
                first | refine wp_condD rfl (fun hc64 => ?_) (fun hc64 => ?_) | refine wp_condN rfl (fun hc64 => ?_) (fun hc64 => ?_) | refine wp_condNB rfl (fun hc64 => ?_) (fun hc64 => ?_) | refine wp_cond' rfl (fun hc64 => ?_) (fun hc64 => ?_)
                · refine wp_reg ?_
                  refine ol_r (r_move rfl) rfl ?_
                  refine ol_r (r_assign rfl) rfl ?_
                  refine ol_nil (to_k0 (fun _ _ h => h) (hK49 _ _ _ ?_))
                  clear hK49
                  refine wp_reg ?_
                  refine ol_r (r_move rfl) rfl ?_
                  first | refine ol_r (r_quo rfl rfl (by omega)) rfl ?_ | refine ol_r (r_tquo rfl rfl (by omega)) rfl ?_
                  refine ol_r (r_assign rfl) rfl ?_
                  refine ol_nil (to_k0 (fun _ _ h => h) (hK46 ((i, _)) _ _ ?_ ?_ (sub_cons (by first | rfl | (rfl)) (sub_cons (by first | rfl | (rfl)) sub_nil)) (sub_cons rfl (sub_cons rfl (sub_cons rfl (sub_cons rfl sub_nil)))) (by exact subH_nil) (subH_same rfl subH_nil)))
                  · try dsimp only
                    have hs2 : r + ((2 ^ (i + 1) : Nat) : Int) = r + ((2 ^ i : Nat) : Int) + ((2 ^ i : Nat) : Int) := by omega
                    rw [hs2] at hhi
                    first
                      | exact ⟨by omega, by omega, by omega, hc64, hhi⟩
                      | exact ⟨by omega, hr, by omega, hlo, Int.not_le.1 hc64⟩
                  · try dsimp only
                    omega
                · refine wp_skip' (to_k0 (fun _ _ h => h) (hK49 _ _ _ ?_))
                  clear hK49
                  refine wp_reg ?_
                  refine ol_r (r_move rfl) rfl ?_
                  first | refine ol_r (r_quo rfl rfl (by omega)) rfl ?_ | refine ol_r (r_tquo rfl rfl (by omega)) rfl ?_
                  refine ol_r (r_assign rfl) rfl ?_
                  refine ol_nil (to_k0 (fun _ _ h => h) (hK46 ((i, _)) _ _ ?_ ?_ (sub_cons (by first | rfl | (rfl)) (sub_cons (by first | rfl | (rfl)) sub_nil)) (sub_cons rfl (sub_cons rfl (sub_cons rfl (sub_cons rfl sub_nil)))) (by exact subH_nil) (subH_same rfl subH_nil)))
                  · try dsimp only
                    have hs2 : r + ((2 ^ (i + 1) : Nat) : Int) = r + ((2 ^ i : Nat) : Int) + ((2 ^ i : Nat) : Int) := by omega
                    rw [hs2] at hhi
                    first
                      | exact ⟨by omega, by omega, by omega, hc64, hhi⟩
                      | exact ⟨by omega, hr, by omega, hlo, Int.not_le.1 hc64⟩
                  · try dsimp only
                    omega
              · refine wp_exit' (to_k0 (fun _ _ h => h) (hK44 _ _ _ ?_))
                clear hK44
                refine wp_seq' fun K52 hK52 => ?_
                refine wp_reg ?_
                refine ol_r (r_move rfl) rfl ?_
                refine ol_r (r_assign rfl) rfl ?_
                refine ol_r (r_assign rfl) rfl ?_
                refine ol_r (r_assign rfl) rfl ?_
                refine ol_nil (to_k0 (fun _ _ h => h) (hK52 _ _ _ ?_))
                clear hK52
                refine hQ.ret (rvs3 (rv_t rfl) (rv_t rfl) (rv_t rfl)) (fun _ _ h => h) fun w hb hs hB hkd => ?_
                first
                  | (refine ⟨0, _, false, ?_, rfl, hb⟩
                     unfold HardR; rw [if_pos hc17]; exact ⟨rfl, rfl, rfl⟩)
                  | (refine ⟨0, 9, false, ?_, rfl, hb⟩
                     unfold HardR; rw [if_neg hc17, if_pos (by rw [List.all_eq_false]; exact ⟨mx, hmx.1, by simp; omega⟩)]; exact ⟨rfl, rfl, rfl⟩)
                  | (have hin : i = ys.length := by omega
                     subst hin
                     rw [List.take_length] at hu hv
                     refine ⟨0, 0, false, ?_, rfl, hb⟩
                     unfold HardR
                     rw [if_neg hc17, if_neg (by rw [List.all_eq_true.2 (fun x hx => decide_eq_true (hall x hx))]; simp)]
                     first | rw [← hv] | rw [hyy, ← hv]
                     rw [if_pos hc47]; exact ⟨rfl, rfl, rfl⟩)
                  | (refine ⟨r, 0, true, ?_, rfl, hb⟩
                     unfold HardR
                     rw [if_neg hc17, if_neg (by rw [List.all_eq_true.2 (fun x hx => decide_eq_true (hall x hx))]; simp)]
                     first | rw [← hv] | rw [hyy, ← hv]
                     rw [if_neg hc47, ← hu]
                     have hj0 : j = 0 := by
                       cases j with
                       | zero => rfl
                       | succ i => exact absurd (by have := Nat.pow_pos (n := i) (show 0 < 2 by omega); rw [Nat.pow_succ]; omega) hc52
                     subst hj0
                     exact ⟨⟨hr, hlo, by simpa using hhi⟩, rfl, rfl⟩)
theorem ref_Hard (a : Option Addr) (n cap : Nat) (xs : List Int) (w : World) (hl : Rd encI w.heap.size w a n cap xs) :
    Calls Try.prog 88 #[.slice a n cap] w fun e w' => ∃ (r c : Int) (ok : Bool), HardR xs (smK xs 30 n) r ok c ∧ e = .returned (.tuple #[.int .i64 r, .bool ok, .int .i64 c]) ∧ Below w.heap.size w w' := by
  have hn := hl.len
  have hfit := hl.fit
  subst hn
  refine enterQ (N := 65) (C := fun _ => True) (H := []) (B := w.heap.size) (args := [_]) Try.func88 rfl rfl rfl (Nat.le_refl _) (Sat.nil _ _) fun Q hQ => ?_
  refine wp_seq' fun K1 hK1 => ?_
  refine wp_reg ?_
  refine ol_r (r_assign rfl) rfl ?_
  refine ol_r (r_assign rfl) rfl ?_
  refine ol_r (r_assign rfl) rfl ?_
  refine ol_nil (to_k0 (fun _ _ h => h) (hK1 _ _ _ ?_))
  clear hK1
  refine wp_seq' fun K2 hK2 => ?_
  refine wp_seq' fun K3 hK3 => ?_
  refine wp_reg ?_
  refine ol_r (r_move rfl) rfl ?_
  refine ol_call rfl rfl cb75 rfl (fun w1 hb1 hs1 hB1 => Calls.mono (ref_CheckStream _ _ _ xs _ (hl.at hb1 hB1)) ?_)
  rintro e w2 ⟨rfl, hb2⟩
  refine After.below rfl hb1 hs1 hB1 hb2 ?_
  clear hb2 hB1 hs1 hb1 w2 w1
  refine ol_r (r_assign rfl) rfl ?_
  refine ol_nil (to_k0 (fun _ _ h => h) (hK3 _ _ _ ?_))
  clear hK3
  refine wp_seq' fun K4 hK4 => ?_
  refine wp_reg ?_
  refine ol_r (r_move rfl) rfl ?_
  refine ol_r (r_neq rfl rfl) rfl ?_
  refine ol_nil (to_k0 (fun _ _ h => h) (hK4 _ _ _ ?_))
  clear hK4
  first | refine wp_condD rfl (fun hc17 => ?_) (fun hc17 => ?_) | refine wp_condN rfl (fun hc17 => ?_) (fun hc17 => ?_) | refine wp_condNB rfl (fun hc17 => ?_) (fun hc17 => ?_) | refine wp_cond' rfl (fun hc17 => ?_) (fun hc17 => ?_)
  · refine wp_seq' fun K5 hK5 => ?_
    refine wp_reg ?_
    refine ol_r (r_move rfl) rfl ?_
    refine ol_r (r_assign rfl) rfl ?_
    refine ol_r (r_assign rfl) rfl ?_
    refine ol_r (r_assign rfl) rfl ?_
    refine ol_nil (to_k0 (fun _ _ h => h) (hK5 _ _ _ ?_))
    clear hK5
    refine hQ.ret (rvs3 (rv_t rfl) (rv_t rfl) (rv_t rfl)) (fun _ _ h => h) fun w hb hs hB hkd => ?_
    first
      | (refine ⟨0, _, false, ?_, rfl, hb⟩
         unfold HardR; rw [if_pos hc17]; exact ⟨rfl, rfl, rfl⟩)
      | (refine ⟨0, 9, false, ?_, rfl, hb⟩
         unfold HardR; rw [if_neg hc17, if_pos (by rw [List.all_eq_false]; exact ⟨x23, List.mem_of_getElem? hx23, by simp; omega⟩)]; exact ⟨rfl, rfl, rfl⟩)
      | (have hin : i = ys.length := by omega
         subst hin
         rw [List.take_length] at hu hv
         refine ⟨0, 0, false, ?_, rfl, hb⟩
         unfold HardR
         rw [if_neg hc17, if_neg (by rw [List.all_eq_true.2 (fun x hx => decide_eq_true (hall x hx))]; simp)]
         first | rw [← hv] | rw [hyy, ← hv]
         rw [if_pos hc48]; exact ⟨rfl, rfl, rfl⟩)
      | (refine ⟨r, 0, true, ?_, rfl, hb⟩
         unfold HardR
         rw [if_neg hc17, if_neg (by rw [List.all_eq_true.2 (fun x hx => decide_eq_true (hall x hx))]; simp)]
         first | rw [← hv] | rw [hyy, ← hv]
         rw [if_neg hc48, ← hu]
         exact ⟨⟨by omega, hlo, Int.not_le.1 hc61⟩, rfl, rfl⟩)
  · refine wp_skip' (to_k0 (fun _ _ h => h) (hK2 _ _ _ ?_))
    clear hK2
    refine wp_seq' fun K6 hK6 => ?_
    refine wp_seq' fun K7 hK7 => ?_
    refine wp_reg ?_
    refine ol_r (r_move rfl) rfl ?_
    refine ol_r (r_len rfl sl22) rfl ?_
    refine ol_r (r_move rfl) rfl ?_
    refine ol_nil (to_k0 (fun _ _ h => h) (hK7 _ _ _ ?_))
    clear hK7
    refine wp_block' ?_
    apply wp_loopM (σ := Nat) (fun s => s ≤ xs.length ∧ ∀ x ∈ xs.take s, x ≤ 10000) (fun s => [(21, .int .i64 s)]) [(0, _), (19, _), (20, _)] (fun s => []) [] (fun s => xs.length - s) (0)
    · try dsimp only
      exact ⟨Nat.zero_le _, by simp⟩
    · exact (sub_cons rfl sub_nil)
    · exact (sub_cons rfl (sub_cons rfl (sub_cons rfl sub_nil)))
    · exact subH_nil
    · exact subH_nil
    · rintro q ⟨hq, hQ1⟩
      intro K8 hK8
      refine wp_seq' fun K9 hK9 => ?_
      refine wp_reg ?_
      refine ol_r (r_lss rfl rfl) rfl ?_
      refine ol_nil (to_k0 (fun _ _ h => h) (hK9 _ _ _ ?_))
      clear hK9
      refine wp_seq' fun K10 hK10 => ?_
      first | refine wp_condD rfl (fun hc22 => ?_) (fun hc22 => ?_) | refine wp_condN rfl (fun hc22 => ?_) (fun hc22 => ?_) | refine wp_condNB rfl (fun hc22 => ?_) (fun hc22 => ?_) | refine wp_cond' rfl (fun hc22 => ?_) (fun hc22 => ?_)
      · refine wp_skip' (to_k0 (fun _ _ h => h) (hK10 _ _ _ ?_))
        clear hK10
        refine wp_seq' fun K11 hK11 => ?_
        refine wp_block' ?_
        refine wp_seq' fun K12 hK12 => ?_
        refine wp_reg ?_
        refine ol_ixr hl rfl rfl sl22 (by omega) rfl fun x23 hx23 => ?_
        try simp only [Int.toNat_natCast] at hx23
        refine ol_r (r_ldw rfl (fun w1 hb1 hs1 hB1 => show Loads _ _ _ _ (.int .i64 x23) from Rd.loads hl ty3 hx23 hb1)) rfl ?_
        refine ol_r (r_assign rfl) rfl ?_
        refine ol_nil (to_k0 (fun _ _ h => h) (hK12 _ _ _ ?_))
        clear hK12
        refine wp_seq' fun K13 hK13 => ?_
        refine wp_reg ?_
        refine ol_r (r_move rfl) rfl ?_
        refine ol_r (r_gtr rfl rfl) rfl ?_
        refine ol_nil (to_k0 (fun _ _ h => h) (hK13 _ _ _ ?_))
        clear hK13
        first | refine wp_condD rfl (fun hc26 => ?_) (fun hc26 => ?_) | refine wp_condN rfl (fun hc26 => ?_) (fun hc26 => ?_) | refine wp_condNB rfl (fun hc26 => ?_) (fun hc26 => ?_) | refine wp_cond' rfl (fun hc26 => ?_) (fun hc26 => ?_)
        · refine wp_seq' fun K14 hK14 => ?_
          refine wp_reg ?_
          refine ol_r (r_assign rfl) rfl ?_
          refine ol_r (r_assign rfl) rfl ?_
          refine ol_r (r_assign rfl) rfl ?_
          refine ol_nil (to_k0 (fun _ _ h => h) (hK14 _ _ _ ?_))
          clear hK14
          refine hQ.ret (rvs3 (rv_t rfl) (rv_t rfl) (rv_t rfl)) (fun _ _ h => h) fun w hb hs hB hkd => ?_
          first
            | (refine ⟨0, _, false, ?_, rfl, hb⟩
               unfold HardR; rw [if_pos hc17]; exact ⟨rfl, rfl, rfl⟩)
            | (refine ⟨0, 9, false, ?_, rfl, hb⟩
               unfold HardR; rw [if_neg hc17, if_pos (by rw [List.all_eq_false]; exact ⟨x23, List.mem_of_getElem? hx23, by simp; omega⟩)]; exact ⟨rfl, rfl, rfl⟩)
            | (have hin : i = ys.length := by omega
               subst hin
               rw [List.take_length] at hu hv
               refine ⟨0, 0, false, ?_, rfl, hb⟩
               unfold HardR
               rw [if_neg hc17, if_neg (by rw [List.all_eq_true.2 (fun x hx => decide_eq_true (hall x hx))]; simp)]
               first | rw [← hv] | rw [hyy, ← hv]
               rw [if_pos hc48]; exact ⟨rfl, rfl, rfl⟩)
            | (refine ⟨r, 0, true, ?_, rfl, hb⟩
               unfold HardR
               rw [if_neg hc17, if_neg (by rw [List.all_eq_true.2 (fun x hx => decide_eq_true (hall x hx))]; simp)]
               first | rw [← hv] | rw [hyy, ← hv]
               rw [if_neg hc48, ← hu]
               exact ⟨⟨by omega, hlo, Int.not_le.1 hc61⟩, rfl, rfl⟩)
        · refine wp_skip' (to_k0 (fun _ _ h => h) (hK11 _ _ _ ?_))
          clear hK11
          refine wp_reg ?_
          refine ol_r (r_add rfl rfl (by omega)) rfl ?_
          refine ol_r (r_move rfl) rfl ?_
          refine ol_nil (to_k0 (fun _ _ h => h) (hK8 (q + 1) _ _ ?_ ?_ (sub_cons rfl sub_nil) (sub_cons rfl (sub_cons rfl (sub_cons rfl sub_nil))) (by exact subH_nil) subH_nil))
          · try dsimp only
            refine ⟨by omega, fun x hx => ?_⟩
            rw [take_succ_get hx23] at hx
            rcases List.mem_append.1 hx with hx | hx
            · exact hQ1 x hx
            · simp at hx; omega
          · try dsimp only
            omega
      · refine wp_exit' (to_k0 (fun _ _ h => h) (hK6 _ _ _ ?_))
        clear hK6
        refine wp_seq' fun K15 hK15 => ?_
        refine wp_reg ?_
        refine ol_r (r_assign rfl) rfl ?_
        refine ol_r (r_assign rfl) rfl ?_
        refine ol_nil (to_k0 (fun _ _ h => h) (hK15 _ _ _ ?_))
        clear hK15
        refine wp_seq' fun K16 hK16 => ?_
        refine wp_seq' fun K17 hK17 => ?_
        refine wp_reg ?_
        have hall : ∀ x ∈ xs, x ≤ 10000 := by
          rw [List.take_of_length_le (by omega)] at hQ1
          exact hQ1
        have hok := streamR_ok (Decidable.not_not.1 hc17)
        have hys := smK_bd hall 30 (by omega)
        have hyl := smK_len xs 30 xs.length
        generalize hyy : smK xs 30 xs.length = ys at *
        refine ol_r (r_move rfl) rfl ?_
        refine ol_call rfl rfl cb100 rfl (fun w1 hb1 hs1 hB1 => Calls.mono (ref_smooth _ _ _ xs 30 _ (hl.at hb1 hB1) (by omega) (Decidable.not_not.1 hc17)) ?_)
        rintro e w2 ⟨a29, n29, c29, rfl, hf29⟩
        refine After.fresh (id := 29) rfl hb1 hs1 hB1 hf29 ?_
        have hl29 := hf29.len; clear hf29 hB1 hs1 hb1 w2 w1
        simp only [hyy] at hl29 ⊢
        subst hl29
        refine ol_r (r_len rfl sl22) rfl ?_
        refine ol_r (r_move rfl) rfl ?_
        refine ol_nil (to_k0 (fun _ _ h => h) (hK17 _ _ _ ?_))
        clear hK17
        refine wp_block' ?_
        apply wp_loopM (σ := Nat × Int × Int) (fun s => s.1 ≤ ys.length ∧ s.2.1 = sI cV (ys.take s.1) ∧ s.2.2 = sI kV (ys.take s.1)) (fun s => [(31, .int .i64 s.1), (8, .int .i64 s.2.1), (9, .int .i64 s.2.2)]) [(29, _), (30, _)] (fun s => []) [(29, _)] (fun s => ys.length - s.1) ((0, 0, 0))
        · try dsimp only
          exact ⟨Nat.zero_le _, by simp [sI], by simp [sI]⟩
        · exact (sub_cons rfl (sub_cons rfl (sub_cons rfl sub_nil)))
        · exact (sub_cons rfl (sub_cons rfl sub_nil))
        · exact subH_nil
        · exact (subH_same rfl subH_nil)
        · rintro ⟨i, u, v⟩ ⟨hi, hu, hv⟩
          dsimp only at hi hu hv ⊢
          intro K18 hK18
          refine wp_seq' fun K19 hK19 => ?_
          refine wp_reg ?_
          refine ol_r (r_lss rfl rfl) rfl ?_
          refine ol_nil (to_k0 (fun _ _ h => h) (hK19 _ _ _ ?_))
          clear hK19
          refine wp_seq' fun K20 hK20 => ?_
          first | refine wp_condD rfl (fun hc32 => ?_) (fun hc32 => ?_) | refine wp_condN rfl (fun hc32 => ?_) (fun hc32 => ?_) | refine wp_condNB rfl (fun hc32 => ?_) (fun hc32 => ?_) | refine wp_cond' rfl (fun hc32 => ?_) (fun hc32 => ?_)
          · refine wp_skip' (to_k0 (fun _ _ h => h) (hK20 _ _ _ ?_))
            clear hK20
            refine wp_seq' fun K21 hK21 => ?_
            refine wp_block' ?_
            refine wp_seq' fun K22 hK22 => ?_
            refine wp_reg ?_
            refine ol_ixo (id := 29) encI _ rfl rfl rfl rfl sl22 (by omega) rfl fun x33 hx33 => ?_
            try simp only [Int.toNat_natCast] at hx33
            try simp only [Int.toNat_natCast] at hx33
            refine ol_r (r_ldw rfl (fun w1 hb1 hs1 hB1 => show Loads _ _ _ _ (.int .i64 x33) from ld_own (id := 29) hs1 rfl rfl ty3 hx33)) rfl ?_
            refine ol_r (r_assign rfl) rfl ?_
            refine ol_nil (to_k0 (fun _ _ h => h) (hK22 _ _ _ ?_))
            clear hK22
            refine wp_seq' fun K23 hK23 => ?_
            refine wp_reg ?_
            have hxb := hys _ (List.mem_of_getElem? hx33)
            have cb := sI_bd cV 1000000000000 (by omega) (ys.take i) (fun y hy => cV_bd (hys y (List.mem_of_mem_take hy)).2)
            have kb := sI_bd kV 1 (by omega) (ys.take i) (fun y hy => kV_bd y)
            rw [List.length_take] at cb kb
            refine ol_r (r_move rfl) rfl ?_
            refine ol_r (r_geq rfl rfl) rfl ?_
            refine ol_nil (to_k0 (fun _ _ h => h) (hK23 _ _ _ ?_))
            clear hK23
            first | refine wp_condD rfl (fun hc36 => ?_) (fun hc36 => ?_) | refine wp_condN rfl (fun hc36 => ?_) (fun hc36 => ?_) | refine wp_condNB rfl (fun hc36 => ?_) (fun hc36 => ?_) | refine wp_cond' rfl (fun hc36 => ?_) (fun hc36 => ?_)
            · refine wp_reg ?_
              refine ol_r (r_move rfl) rfl ?_
              refine ol_r (r_move rfl) rfl ?_
              refine ol_r (r_move rfl) rfl ?_
              have h0 : 0 ≤ x33 := hc36
              have s1 := mul_bd (A := 10000) (B := 10000) h0 (by omega) h0 (by omega)
              have s2 := mul_bd (A := 100000000) (B := 10000) s1.1 (by omega) h0 (by omega)
              refine ol_r (r_mul rfl rfl (by omega)) rfl ?_
              refine ol_r (r_move rfl) rfl ?_
              refine ol_r (r_mul rfl rfl (by omega)) rfl ?_
              refine ol_r (r_add rfl rfl (by omega)) rfl ?_
              refine ol_r (r_move rfl) rfl ?_
              refine ol_r (r_add rfl rfl (by omega)) rfl ?_
              refine ol_r (r_assign rfl) rfl ?_
              refine ol_r (r_assign rfl) rfl ?_
              refine ol_nil (to_k0 (fun _ _ h => h) (hK21 _ _ _ ?_))
              clear hK21
              refine wp_reg ?_
              refine ol_r (r_add rfl rfl (by omega)) rfl ?_
              refine ol_r (r_move rfl) rfl ?_
              refine ol_nil (to_k0 (fun _ _ h => h) (hK18 ((i + 1, _, _)) _ _ ?_ ?_ (sub_cons rfl (sub_cons rfl (sub_cons rfl sub_nil))) (sub_cons rfl (sub_cons rfl sub_nil)) (by exact subH_nil) (subH_same rfl subH_nil)))
              · try dsimp only
                first
                  | (have e1 : kV x33 = 1 := if_pos hc36
                     have e2 : cV x33 = x33 * x33 * x33 := if_pos hc36
                     exact ⟨by omega, by rw [sI_take cV hx33, hu, e2], by rw [sI_take kV hx33, hv, e1]⟩)
                  | (have e1 : kV x33 = 0 := if_neg hc36
                     have e2 : cV x33 = 0 := if_neg hc36
                     exact ⟨by omega, by rw [sI_take cV hx33, hu, e2]; omega, by rw [sI_take kV hx33, hv, e1]; omega⟩)
              · try dsimp only
                omega
            · refine wp_skip' (to_k0 (fun _ _ h => h) (hK21 _ _ _ ?_))
              clear hK21
              refine wp_reg ?_
              refine ol_r (r_add rfl rfl (by omega)) rfl ?_
              refine ol_r (r_move rfl) rfl ?_
              refine ol_nil (to_k0 (fun _ _ h => h) (hK18 ((i + 1, _, _)) _ _ ?_ ?_ (sub_cons rfl (sub_cons rfl (sub_cons rfl sub_nil))) (sub_cons rfl (sub_cons rfl sub_nil)) (by exact subH_nil) (subH_same rfl subH_nil)))
              · try dsimp only
                first
                  | (have e1 : kV x33 = 1 := if_pos hc36
                     have e2 : cV x33 = x33 * x33 * x33 := if_pos hc36
                     exact ⟨by omega, by rw [sI_take cV hx33, hu, e2], by rw [sI_take kV hx33, hv, e1]⟩)
                  | (have e1 : kV x33 = 0 := if_neg hc36
                     have e2 : cV x33 = 0 := if_neg hc36
                     exact ⟨by omega, by rw [sI_take cV hx33, hu, e2]; omega, by rw [sI_take kV hx33, hv, e1]; omega⟩)
              · try dsimp only
                omega
          · refine wp_exit' (to_k0 (fun _ _ h => h) (hK16 _ _ _ ?_))
            clear hK16
            refine wp_seq' fun K24 hK24 => ?_
            refine wp_seq' fun K25 hK25 => ?_
            refine wp_reg ?_
            refine ol_r (r_move rfl) rfl ?_
            refine ol_r (r_eql rfl rfl) rfl ?_
            refine ol_nil (to_k0 (fun _ _ h => h) (hK25 _ _ _ ?_))
            clear hK25
            first | refine wp_condD rfl (fun hc48 => ?_) (fun hc48 => ?_) | refine wp_condN rfl (fun hc48 => ?_) (fun hc48 => ?_) | refine wp_condNB rfl (fun hc48 => ?_) (fun hc48 => ?_) | refine wp_cond' rfl (fun hc48 => ?_) (fun hc48 => ?_)
            · refine wp_seq' fun K26 hK26 => ?_
              refine wp_reg ?_
              refine ol_r (r_assign rfl) rfl ?_
              refine ol_r (r_assign rfl) rfl ?_
              refine ol_r (r_assign rfl) rfl ?_
              refine ol_nil (to_k0 (fun _ _ h => h) (hK26 _ _ _ ?_))
              clear hK26
              refine hQ.ret (rvs3 (rv_t rfl) (rv_t rfl) (rv_t rfl)) (fun _ _ h => h) fun w hb hs hB hkd => ?_
              first
                | (refine ⟨0, _, false, ?_, rfl, hb⟩
                   unfold HardR; rw [if_pos hc17]; exact ⟨rfl, rfl, rfl⟩)
                | (refine ⟨0, 9, false, ?_, rfl, hb⟩
                   unfold HardR; rw [if_neg hc17, if_pos (by rw [List.all_eq_false]; exact ⟨x23, List.mem_of_getElem? hx23, by simp; omega⟩)]; exact ⟨rfl, rfl, rfl⟩)
                | (have hin : i = ys.length := by omega
                   subst hin
                   rw [List.take_length] at hu hv
                   refine ⟨0, 0, false, ?_, rfl, hb⟩
                   unfold HardR
                   rw [if_neg hc17, if_neg (by rw [List.all_eq_true.2 (fun x hx => decide_eq_true (hall x hx))]; simp)]
                   first | rw [← hv] | rw [hyy, ← hv]
                   rw [if_pos hc48]; exact ⟨rfl, rfl, rfl⟩)
                | (refine ⟨r, 0, true, ?_, rfl, hb⟩
                   unfold HardR
                   rw [if_neg hc17, if_neg (by rw [List.all_eq_true.2 (fun x hx => decide_eq_true (hall x hx))]; simp)]
                   first | rw [← hv] | rw [hyy, ← hv]
                   rw [if_neg hc48, ← hu]
                   exact ⟨⟨by omega, hlo, Int.not_le.1 hc61⟩, rfl, rfl⟩)
            · refine wp_skip' (to_k0 (fun _ _ h => h) (hK24 _ _ _ ?_))
              clear hK24
              refine wp_seq' fun K27 hK27 => ?_
              refine wp_reg ?_
              have hin : i = ys.length := by omega
              subst hin
              rw [List.take_length] at hu hv
              have cb := sI_bd cV 1000000000000 (by omega) ys (fun y hy => cV_bd (hys y hy).2)
              have kb := sI_bd kV 1 (by omega) ys (fun y hy => kV_bd y)
              have hmean : u / v ≤ 1000000000000 := by
                rw [hu, hv]
                exact Int.ediv_le_of_le_mul (by omega) (cV_kV ys (fun y hy => (hys y hy).2))
              have hmean0 : 0 ≤ u / v := Int.ediv_nonneg (by omega) (by omega)
              refine ol_r (r_move rfl) rfl ?_
              refine ol_r (r_move rfl) rfl ?_
              first | refine ol_r (r_quo rfl rfl (by omega)) rfl ?_ | refine ol_r (r_tquo rfl rfl (by omega)) rfl ?_
              refine ol_r (r_assign rfl) rfl ?_
              refine ol_nil (to_k0 (fun _ _ h => h) (hK27 _ _ _ ?_))
              clear hK27
              refine wp_seq' fun K28 hK28 => ?_
              refine wp_reg ?_
              refine ol_r (r_assign rfl) rfl ?_
              refine ol_nil (to_k0 (fun _ _ h => h) (hK28 _ _ _ ?_))
              clear hK28
              refine wp_seq' fun K29 hK29 => ?_
              refine wp_block' ?_
              apply wp_loopM (σ := Nat) (fun s => s ≤ 10000 ∧ (s : Int) * s * s ≤ u / v) (fun s => [(13, .int .i64 s)]) [(12, _)] (fun s => []) [(29, _)] (fun s => 10001 - s) (0)
              · try dsimp only
                exact ⟨by omega, by simpa using hmean0⟩
              · exact (sub_cons rfl sub_nil)
              · exact (sub_cons rfl sub_nil)
              · exact subH_nil
              · exact (subH_same rfl subH_nil)
              · rintro r ⟨hr, hlo⟩
                intro K30 hK30
                refine wp_seq' fun K31 hK31 => ?_
                refine wp_seq' fun K32 hK32 => ?_
                refine wp_reg ?_
                refine ol_r (r_move rfl) rfl ?_
                refine ol_r (r_add rfl rfl (by omega)) rfl ?_
                refine ol_r (r_move rfl) rfl ?_
                refine ol_r (r_add rfl rfl (by omega)) rfl ?_
                have hr0 : 0 ≤ (r : Int) + 1 := by omega
                have s1 := mul_bd (A := 10001) (B := 10001) hr0 (by omega) hr0 (by omega)
                have s2 := mul_bd (A := 100020001) (B := 10001) s1.1 (by omega) hr0 (by omega)
                refine ol_r (r_mul rfl rfl (by omega)) rfl ?_
                refine ol_r (r_move rfl) rfl ?_
                refine ol_r (r_add rfl rfl (by omega)) rfl ?_
                refine ol_r (r_mul rfl rfl (by omega)) rfl ?_
                refine ol_r (r_move rfl) rfl ?_
                refine ol_r (r_leq rfl rfl) rfl ?_
                refine ol_nil (to_k0 (fun _ _ h => h) (hK32 _ _ _ ?_))
                clear hK32
                first | refine wp_condD rfl (fun hc61 => ?_) (fun hc61 => ?_) | refine wp_condN rfl (fun hc61 => ?_) (fun hc61 => ?_) | refine wp_condNB rfl (fun hc61 => ?_) (fun hc61 => ?_) | refine wp_cond' rfl (fun hc61 => ?_) (fun hc61 => ?_)
                · refine wp_skip' (to_k0 (fun _ _ h => h) (hK31 _ _ _ ?_))
                  clear hK31
                  refine wp_block' ?_
                  refine wp_reg ?_
                  refine ol_r (r_move rfl) rfl ?_
                  refine ol_r (r_add rfl rfl (by omega)) rfl ?_
                  refine ol_r (r_assign rfl) rfl ?_
                  refine ol_nil (to_k0 (fun _ _ h => h) (hK30 (r + 1) _ _ ?_ ?_ (sub_cons rfl sub_nil) (sub_cons rfl sub_nil) (by exact subH_nil) (subH_same rfl subH_nil)))
                  · try dsimp only
                    refine ⟨?_, hc61⟩
                    rcases Nat.lt_or_ge r 10000 with h | h
                    · omega
                    · have : r = 10000 := by omega
                      subst this
                      omega
                  · try dsimp only
                    omega
                · refine wp_exit' (to_k0 (fun _ _ h => h) (hK29 _ _ _ ?_))
                  clear hK29
                  refine wp_seq' fun K33 hK33 => ?_
                  refine wp_reg ?_
                  refine ol_r (r_move rfl) rfl ?_
                  refine ol_r (r_assign rfl) rfl ?_
                  refine ol_r (r_assign rfl) rfl ?_
                  refine ol_r (r_assign rfl) rfl ?_
                  refine ol_nil (to_k0 (fun _ _ h => h) (hK33 _ _ _ ?_))
                  clear hK33
                  refine hQ.ret (rvs3 (rv_t rfl) (rv_t rfl) (rv_t rfl)) (fun _ _ h => h) fun w hb hs hB hkd => ?_
                  first
                    | (refine ⟨0, _, false, ?_, rfl, hb⟩
                       unfold HardR; rw [if_pos hc17]; exact ⟨rfl, rfl, rfl⟩)
                    | (refine ⟨0, 9, false, ?_, rfl, hb⟩
                       unfold HardR; rw [if_neg hc17, if_pos (by rw [List.all_eq_false]; exact ⟨x23, List.mem_of_getElem? hx23, by simp; omega⟩)]; exact ⟨rfl, rfl, rfl⟩)
                    | (have hin : i = ys.length := by omega
                       subst hin
                       rw [List.take_length] at hu hv
                       refine ⟨0, 0, false, ?_, rfl, hb⟩
                       unfold HardR
                       rw [if_neg hc17, if_neg (by rw [List.all_eq_true.2 (fun x hx => decide_eq_true (hall x hx))]; simp)]
                       first | rw [← hv] | rw [hyy, ← hv]
                       rw [if_pos hc48]; exact ⟨rfl, rfl, rfl⟩)
                    | (refine ⟨r, 0, true, ?_, rfl, hb⟩
                       unfold HardR
                       rw [if_neg hc17, if_neg (by rw [List.all_eq_true.2 (fun x hx => decide_eq_true (hall x hx))]; simp)]
                       first | rw [← hv] | rw [hyy, ← hv]
                       rw [if_neg hc48, ← hu]
                       exact ⟨⟨by omega, hlo, Int.not_le.1 hc61⟩, rfl, rfl⟩)
end Go.Proofs.Ytamlldedmhkobaa
