/-
  Peak, program and reference; the walk of LoadSeriesMatchSpec.
-/
import Derived.Test.YtamlldedmhkobaaLoadMore
namespace Go.Proofs.Ytamlldedmhkobaa
open Go Go.RowKit Hx
set_option linter.unusedVariables false
set_option linter.unusedSimpArgs false

/-- Peak: the place of the first greatest state, and an error. -/
def peakR (xs : List Int) (c f : Int) : Int × Int :=
  if (seriesR xs c f).2 ≠ 0 then (0, (seriesR xs c f).2) else if (seriesR xs c f).1.length = 0 then (0, 13) else (idxI (seriesR xs c f).1 (maxV (seriesR xs c f).1), 0)

theorem load_Peak (a : Option Addr) (n cap : Nat) (xs : List Int) (c f : Int) (w : World) (hl : Rd encI w.heap.size w a n cap xs) :
    Calls Try.prog 16 #[.slice a n cap, .int .i64 c, .int .i64 f] w fun e w' =>
      e = .returned (.tuple #[.int .i64 (peakR xs c f).1, .int .i64 (peakR xs c f).2]) ∧ Below w.heap.size w w' := by
  refine enterQ (N := 29) (H := []) (B := w.heap.size) (args := [_, _, _]) Try.func16 rfl rfl rfl (Nat.le_refl _) (Sat.nil _ _) fun Q hQ => ?_
  refine wp_seq' fun K1 hK1 => ?_
  refine wp_reg ?_
  refine ol_r (r_assign rfl) rfl ?_
  refine ol_r (r_assign rfl) rfl ?_
  refine ol_nil (to_k0 (fun _ _ h => h) (hK1 _ _ ?_))
  clear hK1
  refine wp_seq' fun K2 hK2 => ?_
  refine wp_reg ?_
  refine ol_r (r_move rfl) rfl ?_
  refine ol_r (r_move rfl) rfl ?_
  refine ol_r (r_move rfl) rfl ?_
  refine ol_call rfl rfl cb12 rfl (fun w1 hb1 hs1 hB1 => Calls.mono (load_Series _ _ _ xs _ _ _ (hl.at hb1 hB1)) ?_)
  rintro e w2 ⟨a14, n14, c14, rfl, hf14⟩
  refine After.fresh (id := 14) rfl hb1 hs1 hB1 hf14 ?_
  have hl14 := hf14.len; clear hf14 hB1 hs1 hb1 w2 w1
  refine ol_r (r_move rfl) rfl ?_
  refine ol_r (r_extract rfl rfl) rfl ?_
  refine ol_r (r_extract rfl rfl) rfl ?_
  refine ol_r (r_assign rfl) rfl ?_
  refine ol_r (r_assign rfl) rfl ?_
  refine ol_nil (to_k0 (fun _ _ h => h) (hK2 _ _ ?_))
  clear hK2
  refine wp_seq' fun K3 hK3 => ?_
  refine wp_block' ?_
  refine wp_seq' fun K4 hK4 => ?_
  refine wp_reg ?_
  refine ol_r (r_move rfl) rfl ?_
  refine ol_r (r_neq rfl rfl) rfl ?_
  refine ol_r (r_assign rfl) rfl ?_
  refine ol_nil (to_k0 (fun _ _ h => h) (hK4 _ _ ?_))
  clear hK4
  first | refine wp_condD rfl (fun hc17 => ?_) (fun hc17 => ?_) | refine wp_condN rfl (fun hc17 => ?_) (fun hc17 => ?_) | refine wp_condNB rfl (fun hc17 => ?_) (fun hc17 => ?_) | refine wp_cond' rfl (fun hc17 => ?_) (fun hc17 => ?_)
  · refine wp_seq' fun K5 hK5 => ?_
    refine wp_reg ?_
    refine ol_r (r_move rfl) rfl ?_
    refine ol_r (r_assign rfl) rfl ?_
    refine ol_r (r_assign rfl) rfl ?_
    refine ol_nil (to_k0 (fun _ _ h => h) (hK5 _ _ ?_))
    clear hK5
    refine hQ.ret (rvs2 (rv_t rfl) (rv_t rfl)) (fun _ _ h => h) fun w hb hs hB => ?_
    refine ⟨?_, hb⟩
    have h : peakR xs c f = (0, (seriesR xs c f).2) := if_pos hc17
    rw [h]
  · refine wp_seq' fun K6 hK6 => ?_
    refine wp_reg ?_
    refine ol_r (r_move rfl) rfl ?_
    refine ol_r (r_len rfl sl22) rfl ?_
    refine ol_r (r_eql rfl rfl) rfl ?_
    refine ol_r (r_assign rfl) rfl ?_
    refine ol_nil (to_k0 (fun _ _ h => h) (hK6 _ _ ?_))
    clear hK6
    first | refine wp_condD rfl (fun hc21 => ?_) (fun hc21 => ?_) | refine wp_condN rfl (fun hc21 => ?_) (fun hc21 => ?_) | refine wp_condNB rfl (fun hc21 => ?_) (fun hc21 => ?_) | refine wp_cond' rfl (fun hc21 => ?_) (fun hc21 => ?_)
    · refine wp_seq' fun K7 hK7 => ?_
      refine wp_reg ?_
      refine ol_r (r_assign rfl) rfl ?_
      refine ol_r (r_assign rfl) rfl ?_
      refine ol_nil (to_k0 (fun _ _ h => h) (hK7 _ _ ?_))
      clear hK7
      refine hQ.ret (rvs2 (rv_t rfl) (rv_t rfl)) (fun _ _ h => h) fun w hb hs hB => ?_
      refine ⟨?_, hb⟩
      have h : peakR xs c f = (0, 13) := by unfold peakR; rw [if_neg hc17, if_pos (by omega)]
      rw [h]
    · refine wp_skip' (to_k0 (fun _ _ h => h) (hK3 _ _ ?_))
      clear hK3
      refine wp_seq' fun K8 hK8 => ?_
      refine wp_reg ?_
      refine ol_r (r_move rfl) rfl ?_
      refine ol_r (r_move rfl) rfl ?_
      refine ol_call rfl rfl cb65 rfl (fun w1 hb1 hs1 hB1 => Calls.mono (max_int _ _ _ _ _ (Sat.rd hs1 (id := 14) rfl rfl) (by omega)) ?_)
      rintro e w2 ⟨rfl, hb2⟩
      refine After.below rfl hb1 hs1 hB1 hb2 ?_
      clear hb2 hB1 hs1 hb1 w2 w1
      refine ol_call rfl rfl cb64 rfl (fun w1 hb1 hs1 hB1 => Calls.mono (index_int _ _ _ _ _ _ (Sat.rd hs1 (id := 14) rfl rfl)) ?_)
      rintro e w2 ⟨rfl, hb2⟩
      refine After.below rfl hb1 hs1 hB1 hb2 ?_
      clear hb2 hB1 hs1 hb1 w2 w1
      refine ol_r (r_assign rfl) rfl ?_
      refine ol_r (r_assign rfl) rfl ?_
      refine ol_nil (to_k0 (fun _ _ h => h) (hK8 _ _ ?_))
      clear hK8
      refine hQ.ret (rvs2 (rv_t rfl) (rv_t rfl)) (fun _ _ h => h) fun w hb hs hB => ?_
      refine ⟨?_, hb⟩
      have h : peakR xs c f = (idxI (seriesR xs c f).1 (maxV (seriesR xs c f).1), 0) := by unfold peakR; rw [if_neg hc17, if_neg (by omega)]
      rw [h]

/-- The first greatest of a list. -/
theorem first_max_snoc {ys : List Int} {b k : Nat} {x v : Int} (hx : ys[k]? = some x) (hb : ys[b]? = some v) (hbk : b < k) (h1 : ∀ y ∈ ys.take k, y ≤ v) (h2 : ∀ y ∈ ys.take b, y < v) :
    (v < x → (∀ y ∈ ys.take (k + 1), y ≤ x) ∧ ∀ y ∈ ys.take k, y < x) ∧ (¬ v < x → ∀ y ∈ ys.take (k + 1), y ≤ v) := by
  refine ⟨fun h => ⟨fun y hy => ?_, fun y hy => ?_⟩, fun h y hy => ?_⟩
  · rw [take_succ_get hx] at hy
    rcases List.mem_append.1 hy with q | q
    · have := h1 y q; omega
    · simp at q; omega
  · have := h1 y hy; omega
  · rw [take_succ_get hx] at hy
    rcases List.mem_append.1 hy with q | q
    · exact h1 y q
    · simp at q; omega
theorem first_max_idx {ys : List Int} {b : Nat} {v : Int} (hb : ys[b]? = some v) (h1 : ∀ y ∈ ys, y ≤ v) (h2 : ∀ y ∈ ys.take b, y < v) : idxI ys (maxV ys) = b := by
  have hv : maxV ys = v := by
    have h3 := maxV_ge (List.mem_of_getElem? hb)
    have h4 := h1 _ (maxV_mem (ys := ys) (by intro e; subst e; simp at hb))
    omega
  rw [hv]
  exact idxI_at hb fun y hy => by have := h2 y hy; omega

theorem ref_Peak (a : Option Addr) (n cap : Nat) (xs : List Int) (c f : Int) (w : World) (hl : Rd encI w.heap.size w a n cap xs) :
    Calls Try.prog 17 #[.slice a n cap, .int .i64 c, .int .i64 f] w fun e w' =>
      e = .returned (.tuple #[.int .i64 (peakR xs c f).1, .int .i64 (peakR xs c f).2]) ∧ Below w.heap.size w w' := by
  refine enterQ (N := 42) (H := []) (B := w.heap.size) (args := [_, _, _]) Try.func17 rfl rfl rfl (Nat.le_refl _) (Sat.nil _ _) fun Q hQ => ?_
  refine wp_seq' fun K1 hK1 => ?_
  refine wp_reg ?_
  refine ol_r (r_assign rfl) rfl ?_
  refine ol_r (r_assign rfl) rfl ?_
  refine ol_nil (to_k0 (fun _ _ h => h) (hK1 _ _ ?_))
  clear hK1
  refine wp_seq' fun K2 hK2 => ?_
  refine wp_reg ?_
  refine ol_r (r_move rfl) rfl ?_
  refine ol_r (r_move rfl) rfl ?_
  refine ol_r (r_move rfl) rfl ?_
  refine ol_call rfl rfl cb13 rfl (fun w1 hb1 hs1 hB1 => Calls.mono (ref_Series _ _ _ xs _ _ _ (hl.at hb1 hB1)) ?_)
  rintro e w2 ⟨a17, n17, c17, rfl, hf17⟩
  refine After.fresh (id := 17) rfl hb1 hs1 hB1 hf17 ?_
  have hl17 := hf17.len; clear hf17 hB1 hs1 hb1 w2 w1
  refine ol_r (r_move rfl) rfl ?_
  refine ol_r (r_extract rfl rfl) rfl ?_
  refine ol_r (r_extract rfl rfl) rfl ?_
  refine ol_r (r_assign rfl) rfl ?_
  refine ol_r (r_assign rfl) rfl ?_
  refine ol_nil (to_k0 (fun _ _ h => h) (hK2 _ _ ?_))
  clear hK2
  refine wp_seq' fun K3 hK3 => ?_
  refine wp_seq' fun K4 hK4 => ?_
  refine wp_reg ?_
  refine ol_r (r_move rfl) rfl ?_
  refine ol_r (r_neq rfl rfl) rfl ?_
  refine ol_nil (to_k0 (fun _ _ h => h) (hK4 _ _ ?_))
  clear hK4
  first | refine wp_condD rfl (fun hc21 => ?_) (fun hc21 => ?_) | refine wp_condN rfl (fun hc21 => ?_) (fun hc21 => ?_) | refine wp_condNB rfl (fun hc21 => ?_) (fun hc21 => ?_) | refine wp_cond' rfl (fun hc21 => ?_) (fun hc21 => ?_)
  · refine wp_seq' fun K5 hK5 => ?_
    refine wp_reg ?_
    refine ol_r (r_move rfl) rfl ?_
    refine ol_r (r_assign rfl) rfl ?_
    refine ol_r (r_assign rfl) rfl ?_
    refine ol_nil (to_k0 (fun _ _ h => h) (hK5 _ _ ?_))
    clear hK5
    refine hQ.ret (rvs2 (rv_t rfl) (rv_t rfl)) (fun _ _ h => h) fun w hb hs hB => ?_
    refine ⟨?_, hb⟩
    have h : peakR xs c f = (0, (seriesR xs c f).2) := if_pos hc21
    rw [h]
  · refine wp_skip' (to_k0 (fun _ _ h => h) (hK3 _ _ ?_))
    clear hK3
    refine wp_seq' fun K6 hK6 => ?_
    refine wp_seq' fun K7 hK7 => ?_
    refine wp_reg ?_
    refine ol_r (r_move rfl) rfl ?_
    refine ol_r (r_len rfl sl22) rfl ?_
    refine ol_r (r_eql rfl rfl) rfl ?_
    refine ol_nil (to_k0 (fun _ _ h => h) (hK7 _ _ ?_))
    clear hK7
    first | refine wp_condD rfl (fun hc25 => ?_) (fun hc25 => ?_) | refine wp_condN rfl (fun hc25 => ?_) (fun hc25 => ?_) | refine wp_condNB rfl (fun hc25 => ?_) (fun hc25 => ?_) | refine wp_cond' rfl (fun hc25 => ?_) (fun hc25 => ?_)
    · refine wp_seq' fun K8 hK8 => ?_
      refine wp_reg ?_
      refine ol_r (r_assign rfl) rfl ?_
      refine ol_r (r_assign rfl) rfl ?_
      refine ol_nil (to_k0 (fun _ _ h => h) (hK8 _ _ ?_))
      clear hK8
      refine hQ.ret (rvs2 (rv_t rfl) (rv_t rfl)) (fun _ _ h => h) fun w hb hs hB => ?_
      refine ⟨?_, hb⟩
      have h : peakR xs c f = (0, 13) := by unfold peakR; rw [if_neg hc21, if_pos (by omega)]
      rw [h]
    · refine wp_skip' (to_k0 (fun _ _ h => h) (hK6 _ _ ?_))
      clear hK6
      refine wp_seq' fun K9 hK9 => ?_
      refine wp_reg ?_
      refine ol_r (r_assign rfl) rfl ?_
      refine ol_nil (to_k0 (fun _ _ h => h) (hK9 _ _ ?_))
      clear hK9
      refine wp_seq' fun K10 hK10 => ?_
      refine wp_seq' fun K11 hK11 => ?_
      refine wp_reg ?_
      have hS := seriesR_inv (Decidable.not_not.1 hc21)
      have h5 : n17 ≤ 5000 := by rw [← hl17, hS.2.2.2.2, scanM_len]; omega
      generalize hys : (seriesR xs c f).1 = ys at *
      refine ol_r (r_move rfl) rfl ?_
      refine ol_r (r_len rfl sl22) rfl ?_
      refine ol_r (r_move rfl) rfl ?_
      refine ol_nil (to_k0 (fun _ _ h => h) (hK11 _ _ ?_))
      clear hK11
      refine wp_block' ?_
      apply wp_loopM (σ := Nat × Nat) (fun s => s.1 ≤ n17 ∧ s.2 < n17 ∧ (s.1 = 0 → s.2 = 0) ∧ (0 < s.1 → s.2 < s.1 ∧ ∃ v, ys[s.2]? = some v ∧ (∀ y ∈ ys.take s.1, y ≤ v) ∧ ∀ y ∈ ys.take s.2, y < v)) (fun s => [(28, .int .i64 s.1), (10, .int .i64 s.2)]) [(6, _), (7, _), (8, _), (26, _), (27, _)] (fun s => []) [(17, _)] (fun s => n17 - s.1) ((0, 0))
      · try dsimp only
        exact ⟨by omega, by omega, fun _ => rfl, fun h => by omega⟩
      · exact (sub_cons rfl (sub_cons rfl sub_nil))
      · exact (sub_cons rfl (sub_cons rfl (sub_cons rfl (sub_cons rfl (sub_cons rfl sub_nil)))))
      · exact subH_nil
      · exact (subH_same rfl subH_nil)
      · rintro ⟨k, b⟩ ⟨hk, hbn, h0, h1⟩
        dsimp only at hk hbn h0 h1 ⊢
        intro K12 hK12
        refine wp_seq' fun K13 hK13 => ?_
        refine wp_reg ?_
        refine ol_r (r_lss rfl rfl) rfl ?_
        refine ol_nil (to_k0 (fun _ _ h => h) (hK13 _ _ ?_))
        clear hK13
        refine wp_seq' fun K14 hK14 => ?_
        first | refine wp_condD rfl (fun hc29 => ?_) (fun hc29 => ?_) | refine wp_condN rfl (fun hc29 => ?_) (fun hc29 => ?_) | refine wp_condNB rfl (fun hc29 => ?_) (fun hc29 => ?_) | refine wp_cond' rfl (fun hc29 => ?_) (fun hc29 => ?_)
        · refine wp_skip' (to_k0 (fun _ _ h => h) (hK14 _ _ ?_))
          clear hK14
          refine wp_seq' fun K15 hK15 => ?_
          refine wp_block' ?_
          refine wp_seq' fun K16 hK16 => ?_
          refine wp_reg ?_
          refine ol_r (r_move rfl) rfl ?_
          refine ol_ixo (id := 17) encI _ rfl rfl rfl rfl sl22 (by omega) rfl fun x31 hx31 => ?_
          try simp only [Int.toNat_natCast] at hx31
          try simp only [Int.toNat_natCast] at hx31
          refine ol_r (r_ldw rfl (fun w1 hb1 hs1 hB1 => show Loads _ _ _ _ (.int .i64 x31) from ld_own (id := 17) hs1 rfl rfl ty3 hx31)) rfl ?_
          refine ol_r (r_assign rfl) rfl ?_
          refine ol_r (r_assign rfl) rfl ?_
          refine ol_nil (to_k0 (fun _ _ h => h) (hK16 _ _ ?_))
          clear hK16
          refine wp_seq' fun K17 hK17 => ?_
          refine wp_reg ?_
          refine ol_r (r_move rfl) rfl ?_
          refine ol_r (r_move rfl) rfl ?_
          refine ol_r (r_move rfl) rfl ?_
          refine ol_ixo (id := 17) encI _ rfl rfl rfl rfl sl22 (by omega) rfl fun x36 hx36 => ?_
          try simp only [Int.toNat_natCast] at hx36
          try simp only [Int.toNat_natCast] at hx36
          refine ol_r (r_ldw rfl (fun w1 hb1 hs1 hB1 => show Loads _ _ _ _ (.int .i64 x36) from ld_own (id := 17) hs1 rfl rfl ty3 hx36)) rfl ?_
          refine ol_r (r_gtr rfl rfl) rfl ?_
          refine ol_nil (to_k0 (fun _ _ h => h) (hK17 _ _ ?_))
          clear hK17
          first | refine wp_condD rfl (fun hc38 => ?_) (fun hc38 => ?_) | refine wp_condN rfl (fun hc38 => ?_) (fun hc38 => ?_) | refine wp_condNB rfl (fun hc38 => ?_) (fun hc38 => ?_) | refine wp_cond' rfl (fun hc38 => ?_) (fun hc38 => ?_)
          · refine wp_reg ?_
            refine ol_r (r_move rfl) rfl ?_
            refine ol_r (r_assign rfl) rfl ?_
            refine ol_nil (to_k0 (fun _ _ h => h) (hK15 _ _ ?_))
            clear hK15
            refine wp_reg ?_
            refine ol_r (r_add rfl rfl (by omega)) rfl ?_
            refine ol_r (r_move rfl) rfl ?_
            refine ol_nil (to_k0 (fun _ _ h => h) (hK12 ((k + 1, _)) _ _ ?_ ?_ (sub_cons rfl (sub_cons rfl sub_nil)) (sub_cons rfl (sub_cons rfl (sub_cons rfl (sub_cons rfl (sub_cons rfl sub_nil))))) (by exact subH_nil) (subH_same rfl subH_nil)))
            · try dsimp only
              by_cases hk0 : k = 0
              · subst hk0
                obtain rfl := h0 rfl
                have he : x31 = x36 := by rw [hx31] at hx36; cases hx36; rfl
                first
                  | (exfalso; omega)
                  | exact ⟨by omega, by omega, fun h => by omega, fun _ => ⟨by omega, x31, hx31, fun y hy => by rw [take_succ_get hx31] at hy; simp at hy; omega, fun y hy => by simp at hy⟩⟩
              · obtain ⟨h2, v, h3, h4, h5⟩ := h1 (by omega)
                have he : v = x36 := by rw [h3] at hx36; cases hx36; rfl
                subst he
                have hq := first_max_snoc hx31 h3 h2 h4 h5
                first
                  | exact ⟨by omega, by omega, fun h => by omega, fun _ => ⟨by omega, x31, hx31, (hq.1 hc38).1, (hq.1 hc38).2⟩⟩
                  | exact ⟨by omega, by omega, fun h => by omega, fun _ => ⟨by omega, v, h3, hq.2 hc38, h5⟩⟩
            · try dsimp only
              omega
          · refine wp_skip' (to_k0 (fun _ _ h => h) (hK15 _ _ ?_))
            clear hK15
            refine wp_reg ?_
            refine ol_r (r_add rfl rfl (by omega)) rfl ?_
            refine ol_r (r_move rfl) rfl ?_
            refine ol_nil (to_k0 (fun _ _ h => h) (hK12 ((k + 1, _)) _ _ ?_ ?_ (sub_cons rfl (sub_cons rfl sub_nil)) (sub_cons rfl (sub_cons rfl (sub_cons rfl (sub_cons rfl (sub_cons rfl sub_nil))))) (by exact subH_nil) (subH_same rfl subH_nil)))
            · try dsimp only
              by_cases hk0 : k = 0
              · subst hk0
                obtain rfl := h0 rfl
                have he : x31 = x36 := by rw [hx31] at hx36; cases hx36; rfl
                first
                  | (exfalso; omega)
                  | exact ⟨by omega, by omega, fun h => by omega, fun _ => ⟨by omega, x31, hx31, fun y hy => by rw [take_succ_get hx31] at hy; simp at hy; omega, fun y hy => by simp at hy⟩⟩
              · obtain ⟨h2, v, h3, h4, h5⟩ := h1 (by omega)
                have he : v = x36 := by rw [h3] at hx36; cases hx36; rfl
                subst he
                have hq := first_max_snoc hx31 h3 h2 h4 h5
                first
                  | exact ⟨by omega, by omega, fun h => by omega, fun _ => ⟨by omega, x31, hx31, (hq.1 hc38).1, (hq.1 hc38).2⟩⟩
                  | exact ⟨by omega, by omega, fun h => by omega, fun _ => ⟨by omega, v, h3, hq.2 hc38, h5⟩⟩
            · try dsimp only
              omega
        · refine wp_exit' (to_k0 (fun _ _ h => h) (hK10 _ _ ?_))
          clear hK10
          refine wp_seq' fun K18 hK18 => ?_
          refine wp_reg ?_
          refine ol_r (r_move rfl) rfl ?_
          refine ol_r (r_assign rfl) rfl ?_
          refine ol_r (r_assign rfl) rfl ?_
          refine ol_nil (to_k0 (fun _ _ h => h) (hK18 _ _ ?_))
          clear hK18
          refine hQ.ret (rvs2 (rv_t rfl) (rv_t rfl)) (fun _ _ h => h) fun w hb hs hB => ?_
          refine ⟨?_, hb⟩
          obtain ⟨h2, v, h3, h4, h5⟩ := h1 (by omega)
          have h6 : ys.take k = ys := List.take_of_length_le (by omega)
          rw [h6] at h4
          have h : peakR xs c f = ((b : Int), 0) := by unfold peakR; rw [if_neg hc21, hys, if_neg (by omega), first_max_idx h3 h4 h5]
          rw [h]

theorem law_series (a : Option Addr) (n cap : Nat) (xs : List Int) (c f d : Int) (w : World) (hl : Rd encI w.heap.size w a n cap xs) :
    Calls Try.prog 4 #[.slice a n cap, .int .i64 c, .int .i64 f, .int .i64 d] w fun e w' => e = .returned (.bool true) ∧ Below w.heap.size w w' := by
  refine enterQ (N := 94) (H := []) (B := w.heap.size) (args := [_, _, _, _]) Try.func4 rfl rfl rfl (Nat.le_refl _) (Sat.nil _ _) fun Q hQ => ?_
  refine wp_seq' fun K1 hK1 => ?_
  refine wp_reg ?_
  refine ol_r (r_assign rfl) rfl ?_
  refine ol_nil (to_k0 (fun _ _ h => h) (hK1 _ _ ?_))
  clear hK1
  refine wp_seq' fun K2 hK2 => ?_
  refine wp_reg ?_
  refine ol_r (r_move rfl) rfl ?_
  refine ol_r (r_move rfl) rfl ?_
  refine ol_r (r_move rfl) rfl ?_
  refine ol_call rfl rfl cb12 rfl (fun w1 hb1 hs1 hB1 => Calls.mono (load_Series _ _ _ xs _ _ _ (hl.at hb1 hB1)) ?_)
  rintro e w2 ⟨a25, n25, c25, rfl, hf25⟩
  refine After.fresh (id := 25) rfl hb1 hs1 hB1 hf25 ?_
  have hl25 := hf25.len; clear hf25 hB1 hs1 hb1 w2 w1
  refine ol_r (r_move rfl) rfl ?_
  refine ol_r (r_extract rfl rfl) rfl ?_
  refine ol_r (r_extract rfl rfl) rfl ?_
  refine ol_r (r_assign rfl) rfl ?_
  refine ol_r (r_assign rfl) rfl ?_
  refine ol_nil (to_k0 (fun _ _ h => h) (hK2 _ _ ?_))
  clear hK2
  refine wp_seq' fun K3 hK3 => ?_
  refine wp_reg ?_
  refine ol_r (r_move rfl) rfl ?_
  refine ol_r (r_move rfl) rfl ?_
  refine ol_r (r_move rfl) rfl ?_
  refine ol_call rfl rfl cb13 rfl (fun w1 hb1 hs1 hB1 => Calls.mono (ref_Series _ _ _ xs _ _ _ (hl.at hb1 hB1)) ?_)
  rintro e w2 ⟨a32, n32, c32, rfl, hf32⟩
  refine After.fresh (id := 32) rfl hb1 hs1 hB1 hf32 ?_
  have hl32 := hf32.len; clear hf32 hB1 hs1 hb1 w2 w1
  refine ol_r (r_move rfl) rfl ?_
  refine ol_r (r_extract rfl rfl) rfl ?_
  refine ol_r (r_extract rfl rfl) rfl ?_
  refine ol_r (r_assign rfl) rfl ?_
  refine ol_r (r_assign rfl) rfl ?_
  refine ol_nil (to_k0 (fun _ _ h => h) (hK3 _ _ ?_))
  clear hK3
  refine wp_seq' fun K4 hK4 => ?_
  refine wp_reg ?_
  refine ol_r (r_move rfl) rfl ?_
  refine ol_r (r_move rfl) rfl ?_
  refine ol_r (r_move rfl) rfl ?_
  refine ol_call rfl rfl cb16 rfl (fun w1 hb1 hs1 hB1 => Calls.mono (load_Peak _ _ _ xs _ _ _ (hl.at hb1 hB1)) ?_)
  rintro e w2 ⟨rfl, hb2⟩
  refine After.below rfl hb1 hs1 hB1 hb2 ?_
  clear hb2 hB1 hs1 hb1 w2 w1
  refine ol_r (r_move rfl) rfl ?_
  refine ol_r (r_extract rfl rfl) rfl ?_
  refine ol_r (r_extract rfl rfl) rfl ?_
  refine ol_r (r_assign rfl) rfl ?_
  refine ol_r (r_assign rfl) rfl ?_
  refine ol_nil (to_k0 (fun _ _ h => h) (hK4 _ _ ?_))
  clear hK4
  refine wp_seq' fun K5 hK5 => ?_
  refine wp_reg ?_
  refine ol_r (r_move rfl) rfl ?_
  refine ol_r (r_move rfl) rfl ?_
  refine ol_r (r_move rfl) rfl ?_
  refine ol_call rfl rfl cb17 rfl (fun w1 hb1 hs1 hB1 => Calls.mono (ref_Peak _ _ _ xs _ _ _ (hl.at hb1 hB1)) ?_)
  rintro e w2 ⟨rfl, hb2⟩
  refine After.below rfl hb1 hs1 hB1 hb2 ?_
  clear hb2 hB1 hs1 hb1 w2 w1
  refine ol_r (r_move rfl) rfl ?_
  refine ol_r (r_extract rfl rfl) rfl ?_
  refine ol_r (r_extract rfl rfl) rfl ?_
  refine ol_r (r_assign rfl) rfl ?_
  refine ol_r (r_assign rfl) rfl ?_
  refine ol_nil (to_k0 (fun _ _ h => h) (hK5 _ _ ?_))
  clear hK5
  refine wp_seq' fun K6 hK6 => ?_
  refine wp_reg ?_
  refine ol_r (r_move rfl) rfl ?_
  refine ol_r (r_move rfl) rfl ?_
  refine ol_r (r_move rfl) rfl ?_
  refine ol_call rfl rfl cb18 rfl (fun w1 hb1 hs1 hB1 => Calls.mono (load_Step _ _ _ _) ?_)
  rintro e w2 ⟨rfl, hb2⟩
  refine After.below rfl hb1 hs1 hB1 hb2 ?_
  clear hb2 hB1 hs1 hb1 w2 w1
  refine ol_r (r_move rfl) rfl ?_
  refine ol_r (r_extract rfl rfl) rfl ?_
  refine ol_r (r_extract rfl rfl) rfl ?_
  refine ol_r (r_assign rfl) rfl ?_
  refine ol_r (r_assign rfl) rfl ?_
  refine ol_nil (to_k0 (fun _ _ h => h) (hK6 _ _ ?_))
  clear hK6
  refine wp_seq' fun K7 hK7 => ?_
  refine wp_reg ?_
  refine ol_r (r_move rfl) rfl ?_
  refine ol_r (r_move rfl) rfl ?_
  refine ol_r (r_move rfl) rfl ?_
  refine ol_call rfl rfl cb19 rfl (fun w1 hb1 hs1 hB1 => Calls.mono (ref_Step _ _ _ _) ?_)
  rintro e w2 ⟨rfl, hb2⟩
  refine After.below rfl hb1 hs1 hB1 hb2 ?_
  clear hb2 hB1 hs1 hb1 w2 w1
  refine ol_r (r_move rfl) rfl ?_
  refine ol_r (r_extract rfl rfl) rfl ?_
  refine ol_r (r_extract rfl rfl) rfl ?_
  refine ol_r (r_assign rfl) rfl ?_
  refine ol_r (r_assign rfl) rfl ?_
  refine ol_nil (to_k0 (fun _ _ h => h) (hK7 _ _ ?_))
  clear hK7
  refine wp_seq' fun K8 hK8 => ?_
  refine wp_reg ?_
  refine ol_r (r_move rfl) rfl ?_
  refine ol_r (r_move rfl) rfl ?_
  refine ol_call rfl rfl cb20 rfl (fun w1 hb1 hs1 hB1 => Calls.mono (equal_int _ _ _ _ _ _ (seriesR xs c f).1 (seriesR xs c f).1 _ (Sat.rd hs1 (id := 25) rfl rfl) (Sat.rd hs1 (id := 32) rfl rfl)) ?_)
  rintro e w2 ⟨rfl, hb2⟩
  refine After.below rfl hb1 hs1 hB1 hb2 ?_
  clear hb2 hB1 hs1 hb1 w2 w1
  refine ol_r (r_move rfl) rfl ?_
  refine ol_split (d := 66) rfl (fun hs66 => ?_) (fun hs66 => ?_)
  · have phs66 := hs66; try simp only [decide_eq_true_eq, decide_eq_false_iff_not, Bool.not_eq_true', Bool.not_eq_false', Bool.not_true, Bool.not_false] at phs66
    refine ol_g rfl rfl hs66 ?_
    refine ol_r (r_move rfl) rfl ?_
    refine ol_g rfl rfl hs66 ?_
    refine ol_r (r_move rfl) rfl ?_
    refine ol_g rfl rfl hs66 ?_
    refine ol_r (r_eql rfl rfl) rfl ?_
    refine ol_r (r_pickT rfl hs66 rfl) rfl ?_
    refine ol_r (r_move rfl) rfl ?_
    refine ol_split (d := 71) rfl (fun hs71 => ?_) (fun hs71 => ?_)
    · have phs71 := hs71; try simp only [decide_eq_true_eq, decide_eq_false_iff_not, Bool.not_eq_true', Bool.not_eq_false', Bool.not_true, Bool.not_false] at phs71
      refine ol_g rfl rfl hs71 ?_
      refine ol_r (r_move rfl) rfl ?_
      refine ol_g rfl rfl hs71 ?_
      refine ol_r (r_move rfl) rfl ?_
      refine ol_g rfl rfl hs71 ?_
      refine ol_r (r_eql rfl rfl) rfl ?_
      refine ol_r (r_pickT rfl hs71 rfl) rfl ?_
      refine ol_r (r_move rfl) rfl ?_
      refine ol_split (d := 76) rfl (fun hs76 => ?_) (fun hs76 => ?_)
      · have phs76 := hs76; try simp only [decide_eq_true_eq, decide_eq_false_iff_not, Bool.not_eq_true', Bool.not_eq_false', Bool.not_true, Bool.not_false] at phs76
        refine ol_g rfl rfl hs76 ?_
        refine ol_r (r_move rfl) rfl ?_
        refine ol_g rfl rfl hs76 ?_
        refine ol_r (r_move rfl) rfl ?_
        refine ol_g rfl rfl hs76 ?_
        refine ol_r (r_eql rfl rfl) rfl ?_
        refine ol_r (r_pickT rfl hs76 rfl) rfl ?_
        refine ol_r (r_move rfl) rfl ?_
        refine ol_split (d := 81) rfl (fun hs81 => ?_) (fun hs81 => ?_)
        · have phs81 := hs81; try simp only [decide_eq_true_eq, decide_eq_false_iff_not, Bool.not_eq_true', Bool.not_eq_false', Bool.not_true, Bool.not_false] at phs81
          refine ol_g rfl rfl hs81 ?_
          refine ol_r (r_move rfl) rfl ?_
          refine ol_g rfl rfl hs81 ?_
          refine ol_r (r_move rfl) rfl ?_
          refine ol_g rfl rfl hs81 ?_
          refine ol_r (r_eql rfl rfl) rfl ?_
          refine ol_r (r_pickT rfl hs81 rfl) rfl ?_
          refine ol_r (r_move rfl) rfl ?_
          refine ol_split (d := 86) rfl (fun hs86 => ?_) (fun hs86 => ?_)
          · have phs86 := hs86; try simp only [decide_eq_true_eq, decide_eq_false_iff_not, Bool.not_eq_true', Bool.not_eq_false', Bool.not_true, Bool.not_false] at phs86
            refine ol_g rfl rfl hs86 ?_
            refine ol_r (r_move rfl) rfl ?_
            refine ol_g rfl rfl hs86 ?_
            refine ol_r (r_move rfl) rfl ?_
            refine ol_g rfl rfl hs86 ?_
            refine ol_r (r_eql rfl rfl) rfl ?_
            refine ol_r (r_pickT rfl hs86 rfl) rfl ?_
            refine ol_r (r_move rfl) rfl ?_
            refine ol_split (d := 91) rfl (fun hs91 => ?_) (fun hs91 => ?_)
            · have phs91 := hs91; try simp only [decide_eq_true_eq, decide_eq_false_iff_not, Bool.not_eq_true', Bool.not_eq_false', Bool.not_true, Bool.not_false] at phs91
              refine ol_g rfl rfl hs91 ?_
              refine ol_call rfl rfl cb14 rfl (fun w1 hb1 hs1 hB1 => Calls.mono (load_told _) ?_)
              rintro e w2 ⟨rfl, hb2⟩
              refine After.below rfl hb1 hs1 hB1 hb2 ?_
              clear hb2 hB1 hs1 hb1 w2 w1
              refine ol_r (r_pickT rfl hs91 rfl) rfl ?_
              refine ol_r (r_assign rfl) rfl ?_
              refine ol_nil (to_k0 (fun _ _ h => h) (hK8 _ _ ?_))
              clear hK8
              refine hQ.ret (rvs1 (rv_t rfl)) (fun _ _ h => h) fun w hb hs hB => ?_
              first
                | exact ⟨rfl, hb⟩
                | (exfalso; simp at phs66; done)
                | (exfalso; simp at phs71; done)
                | (exfalso; simp at phs76; done)
                | (exfalso; simp at phs81; done)
                | (exfalso; simp at phs86; done)
                | (exfalso; simp at phs91; done)
            · have phs91 := hs91; try simp only [decide_eq_true_eq, decide_eq_false_iff_not, Bool.not_eq_true', Bool.not_eq_false', Bool.not_true, Bool.not_false] at phs91
              refine ol_s rfl rfl hs91 rfl ?_
              refine ol_r (r_pickF rfl hs91 rfl) rfl ?_
              refine ol_r (r_assign rfl) rfl ?_
              refine ol_nil (to_k0 (fun _ _ h => h) (hK8 _ _ ?_))
              clear hK8
              refine hQ.ret (rvs1 (rv_t rfl)) (fun _ _ h => h) fun w hb hs hB => ?_
              first
                | exact ⟨rfl, hb⟩
                | (exfalso; simp at phs66; done)
                | (exfalso; simp at phs71; done)
                | (exfalso; simp at phs76; done)
                | (exfalso; simp at phs81; done)
                | (exfalso; simp at phs86; done)
                | (exfalso; simp at phs91; done)
          · have phs86 := hs86; try simp only [decide_eq_true_eq, decide_eq_false_iff_not, Bool.not_eq_true', Bool.not_eq_false', Bool.not_true, Bool.not_false] at phs86
            refine ol_s rfl rfl hs86 rfl ?_
            refine ol_s rfl rfl hs86 rfl ?_
            refine ol_s rfl rfl hs86 rfl ?_
            refine ol_r (r_pickF rfl hs86 rfl) rfl ?_
            refine ol_r (r_move rfl) rfl ?_
            refine ol_s rfl rfl rfl rfl ?_
            refine ol_r (r_pickF rfl rfl rfl) rfl ?_
            refine ol_r (r_assign rfl) rfl ?_
            refine ol_nil (to_k0 (fun _ _ h => h) (hK8 _ _ ?_))
            clear hK8
            refine hQ.ret (rvs1 (rv_t rfl)) (fun _ _ h => h) fun w hb hs hB => ?_
            first
              | exact ⟨rfl, hb⟩
              | (exfalso; simp at phs66; done)
              | (exfalso; simp at phs71; done)
              | (exfalso; simp at phs76; done)
              | (exfalso; simp at phs81; done)
              | (exfalso; simp at phs86; done)
              | (exfalso; simp at phs91; done)
        · have phs81 := hs81; try simp only [decide_eq_true_eq, decide_eq_false_iff_not, Bool.not_eq_true', Bool.not_eq_false', Bool.not_true, Bool.not_false] at phs81
          refine ol_s rfl rfl hs81 rfl ?_
          refine ol_s rfl rfl hs81 rfl ?_
          refine ol_s rfl rfl hs81 rfl ?_
          refine ol_r (r_pickF rfl hs81 rfl) rfl ?_
          refine ol_r (r_move rfl) rfl ?_
          refine ol_s rfl rfl rfl rfl ?_
          refine ol_s rfl rfl rfl rfl ?_
          refine ol_s rfl rfl rfl rfl ?_
          refine ol_r (r_pickF rfl rfl rfl) rfl ?_
          refine ol_r (r_move rfl) rfl ?_
          refine ol_s rfl rfl rfl rfl ?_
          refine ol_r (r_pickF rfl rfl rfl) rfl ?_
          refine ol_r (r_assign rfl) rfl ?_
          refine ol_nil (to_k0 (fun _ _ h => h) (hK8 _ _ ?_))
          clear hK8
          refine hQ.ret (rvs1 (rv_t rfl)) (fun _ _ h => h) fun w hb hs hB => ?_
          first
            | exact ⟨rfl, hb⟩
            | (exfalso; simp at phs66; done)
            | (exfalso; simp at phs71; done)
            | (exfalso; simp at phs76; done)
            | (exfalso; simp at phs81; done)
            | (exfalso; simp at phs86; done)
            | (exfalso; simp at phs91; done)
      · have phs76 := hs76; try simp only [decide_eq_true_eq, decide_eq_false_iff_not, Bool.not_eq_true', Bool.not_eq_false', Bool.not_true, Bool.not_false] at phs76
        refine ol_s rfl rfl hs76 rfl ?_
        refine ol_s rfl rfl hs76 rfl ?_
        refine ol_s rfl rfl hs76 rfl ?_
        refine ol_r (r_pickF rfl hs76 rfl) rfl ?_
        refine ol_r (r_move rfl) rfl ?_
        refine ol_s rfl rfl rfl rfl ?_
        refine ol_s rfl rfl rfl rfl ?_
        refine ol_s rfl rfl rfl rfl ?_
        refine ol_r (r_pickF rfl rfl rfl) rfl ?_
        refine ol_r (r_move rfl) rfl ?_
        refine ol_s rfl rfl rfl rfl ?_
        refine ol_s rfl rfl rfl rfl ?_
        refine ol_s rfl rfl rfl rfl ?_
        refine ol_r (r_pickF rfl rfl rfl) rfl ?_
        refine ol_r (r_move rfl) rfl ?_
        refine ol_s rfl rfl rfl rfl ?_
        refine ol_r (r_pickF rfl rfl rfl) rfl ?_
        refine ol_r (r_assign rfl) rfl ?_
        refine ol_nil (to_k0 (fun _ _ h => h) (hK8 _ _ ?_))
        clear hK8
        refine hQ.ret (rvs1 (rv_t rfl)) (fun _ _ h => h) fun w hb hs hB => ?_
        first
          | exact ⟨rfl, hb⟩
          | (exfalso; simp at phs66; done)
          | (exfalso; simp at phs71; done)
          | (exfalso; simp at phs76; done)
          | (exfalso; simp at phs81; done)
          | (exfalso; simp at phs86; done)
          | (exfalso; simp at phs91; done)
    · have phs71 := hs71; try simp only [decide_eq_true_eq, decide_eq_false_iff_not, Bool.not_eq_true', Bool.not_eq_false', Bool.not_true, Bool.not_false] at phs71
      refine ol_s rfl rfl hs71 rfl ?_
      refine ol_s rfl rfl hs71 rfl ?_
      refine ol_s rfl rfl hs71 rfl ?_
      refine ol_r (r_pickF rfl hs71 rfl) rfl ?_
      refine ol_r (r_move rfl) rfl ?_
      refine ol_s rfl rfl rfl rfl ?_
      refine ol_s rfl rfl rfl rfl ?_
      refine ol_s rfl rfl rfl rfl ?_
      refine ol_r (r_pickF rfl rfl rfl) rfl ?_
      refine ol_r (r_move rfl) rfl ?_
      refine ol_s rfl rfl rfl rfl ?_
      refine ol_s rfl rfl rfl rfl ?_
      refine ol_s rfl rfl rfl rfl ?_
      refine ol_r (r_pickF rfl rfl rfl) rfl ?_
      refine ol_r (r_move rfl) rfl ?_
      refine ol_s rfl rfl rfl rfl ?_
      refine ol_s rfl rfl rfl rfl ?_
      refine ol_s rfl rfl rfl rfl ?_
      refine ol_r (r_pickF rfl rfl rfl) rfl ?_
      refine ol_r (r_move rfl) rfl ?_
      refine ol_s rfl rfl rfl rfl ?_
      refine ol_r (r_pickF rfl rfl rfl) rfl ?_
      refine ol_r (r_assign rfl) rfl ?_
      refine ol_nil (to_k0 (fun _ _ h => h) (hK8 _ _ ?_))
      clear hK8
      refine hQ.ret (rvs1 (rv_t rfl)) (fun _ _ h => h) fun w hb hs hB => ?_
      first
        | exact ⟨rfl, hb⟩
        | (exfalso; simp at phs66; done)
        | (exfalso; simp at phs71; done)
        | (exfalso; simp at phs76; done)
        | (exfalso; simp at phs81; done)
        | (exfalso; simp at phs86; done)
        | (exfalso; simp at phs91; done)
  · have phs66 := hs66; try simp only [decide_eq_true_eq, decide_eq_false_iff_not, Bool.not_eq_true', Bool.not_eq_false', Bool.not_true, Bool.not_false] at phs66
    refine ol_s rfl rfl hs66 rfl ?_
    refine ol_s rfl rfl hs66 rfl ?_
    refine ol_s rfl rfl hs66 rfl ?_
    refine ol_r (r_pickF rfl hs66 rfl) rfl ?_
    refine ol_r (r_move rfl) rfl ?_
    refine ol_s rfl rfl rfl rfl ?_
    refine ol_s rfl rfl rfl rfl ?_
    refine ol_s rfl rfl rfl rfl ?_
    refine ol_r (r_pickF rfl rfl rfl) rfl ?_
    refine ol_r (r_move rfl) rfl ?_
    refine ol_s rfl rfl rfl rfl ?_
    refine ol_s rfl rfl rfl rfl ?_
    refine ol_s rfl rfl rfl rfl ?_
    refine ol_r (r_pickF rfl rfl rfl) rfl ?_
    refine ol_r (r_move rfl) rfl ?_
    refine ol_s rfl rfl rfl rfl ?_
    refine ol_s rfl rfl rfl rfl ?_
    refine ol_s rfl rfl rfl rfl ?_
    refine ol_r (r_pickF rfl rfl rfl) rfl ?_
    refine ol_r (r_move rfl) rfl ?_
    refine ol_s rfl rfl rfl rfl ?_
    refine ol_s rfl rfl rfl rfl ?_
    refine ol_s rfl rfl rfl rfl ?_
    refine ol_r (r_pickF rfl rfl rfl) rfl ?_
    refine ol_r (r_move rfl) rfl ?_
    refine ol_s rfl rfl rfl rfl ?_
    refine ol_r (r_pickF rfl rfl rfl) rfl ?_
    refine ol_r (r_assign rfl) rfl ?_
    refine ol_nil (to_k0 (fun _ _ h => h) (hK8 _ _ ?_))
    clear hK8
    refine hQ.ret (rvs1 (rv_t rfl)) (fun _ _ h => h) fun w hb hs hB => ?_
    first
      | exact ⟨rfl, hb⟩
      | (exfalso; simp at phs66; done)
      | (exfalso; simp at phs71; done)
      | (exfalso; simp at phs76; done)
      | (exfalso; simp at phs81; done)
      | (exfalso; simp at phs86; done)
      | (exfalso; simp at phs91; done)
end Go.Proofs.Ytamlldedmhkobaa
