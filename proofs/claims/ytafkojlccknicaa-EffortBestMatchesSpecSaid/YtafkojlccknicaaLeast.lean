/-
  Least: program and reference; the walk of EffortBestMatchesSpec.
-/
import Derived.Test.YtafkojlccknicaaBest
import Derived.Test.YtafkojlccknicaaLeastM
namespace Go.Proofs.Ytafkojlccknicaa
open Go Go.RowKit Hx
set_option linter.unusedVariables false
set_option linter.unusedSimpArgs false
set_option maxRecDepth 8000

theorem effort_Least (a : Option Addr) (n cap : Nat) (xs : List Int) (sum : Int) (w : World) (hl : Rd encI w.heap.size w a n cap xs) :
    Calls Try.prog 18 #[.slice a n cap, .int .i64 sum] w fun e w' => ∃ (f t : Nat) (ok : Bool) (c : Int), LeastR xs sum f t ok c ∧ e = .returned (.tuple #[.int .i64 f, .int .i64 t, .bool ok, .int .i64 c]) ∧ Below w.heap.size w w' := by
  have hn := hl.len
  have hfit := hl.fit
  subst hn
  refine enterQ (N := 75) (H := []) (B := w.heap.size) (args := [_, _]) Try.func18 rfl rfl rfl (Nat.le_refl _) (Sat.nil _ _) fun Q hQ => ?_
  refine wp_seq' fun K1 hK1 => ?_
  refine wp_reg ?_
  refine ol_r (r_assign rfl) rfl ?_
  refine ol_r (r_assign rfl) rfl ?_
  refine ol_r (r_assign rfl) rfl ?_
  refine ol_r (r_assign rfl) rfl ?_
  refine ol_nil (to_k0 (fun _ _ h => h) (hK1 _ _ ?_))
  clear hK1
  refine wp_seq' fun K2 hK2 => ?_
  refine wp_seq' fun K3 hK3 => ?_
  refine wp_reg ?_
  refine ol_r (r_move rfl) rfl ?_
  refine ol_call rfl rfl cb20 rfl (fun w1 hb1 hs1 hB1 => Calls.mono (effort_CheckStream _ _ _ xs _ (hl.at hb1 hB1)) ?_)
  rintro e w2 ⟨rfl, hb2⟩
  refine After.below rfl hb1 hs1 hB1 hb2 ?_
  clear hb2 hB1 hs1 hb1 w2 w1
  refine ol_r (r_assign rfl) rfl ?_
  refine ol_nil (to_k0 (fun _ _ h => h) (hK3 _ _ ?_))
  clear hK3
  refine wp_seq' fun K4 hK4 => ?_
  refine wp_reg ?_
  refine ol_r (r_move rfl) rfl ?_
  refine ol_r (r_neq rfl rfl) rfl ?_
  refine ol_nil (to_k0 (fun _ _ h => h) (hK4 _ _ ?_))
  clear hK4
  first | refine wp_condD rfl (fun hc16 => ?_) (fun hc16 => ?_) | refine wp_condN rfl (fun hc16 => ?_) (fun hc16 => ?_) | refine wp_condNB rfl (fun hc16 => ?_) (fun hc16 => ?_) | refine wp_cond' rfl (fun hc16 => ?_) (fun hc16 => ?_)
  · refine wp_seq' fun K5 hK5 => ?_
    refine wp_reg ?_
    refine ol_r (r_move rfl) rfl ?_
    refine ol_r (r_assign rfl) rfl ?_
    refine ol_r (r_assign rfl) rfl ?_
    refine ol_r (r_assign rfl) rfl ?_
    refine ol_r (r_assign rfl) rfl ?_
    refine ol_nil (to_k0 (fun _ _ h => h) (hK5 _ _ ?_))
    clear hK5
    refine hQ.ret (rvs4 (rv_t rfl) (rv_t rfl) (rv_t rfl) (rv_t rfl)) (fun _ _ h => h) fun w hb hs hB => ?_
    first
      | exact ⟨0, 0, false, _, by unfold LeastR; rw [if_pos hc16]; exact ⟨rfl, rfl, rfl, rfl⟩, rfl, hb⟩
      | exact ⟨0, 0, false, _, by unfold LeastR; rw [if_neg hc16, if_neg (by simpa using hc20)]; exact ⟨rfl, rfl, rfl, rfl⟩, rfl, hb⟩
      | (have hin' : i = xs.length := by omega
         subst hin'
         exact ⟨f, t, ok, 0, by unfold LeastR; rw [if_neg hc16, if_pos hin]; exact ⟨hL, rfl⟩, rfl, hb⟩)
  · refine wp_skip' (to_k0 (fun _ _ h => h) (hK2 _ _ ?_))
    clear hK2
    refine wp_seq' fun K6 hK6 => ?_
    refine wp_seq' fun K7 hK7 => ?_
    refine wp_reg ?_
    refine ol_r (r_move rfl) rfl ?_
    refine ol_call rfl rfl cb69 rfl (fun w1 hb1 hs1 hB1 => Calls.mono (effort_in _ _ _ _) ?_)
    rintro e w2 ⟨rfl, hb2⟩
    refine After.below rfl hb1 hs1 hB1 hb2 ?_
    clear hb2 hB1 hs1 hb1 w2 w1
    refine ol_r (r_not rfl) rfl ?_
    refine ol_nil (to_k0 (fun _ _ h => h) (hK7 _ _ ?_))
    clear hK7
    first | refine wp_condD rfl (fun hc20 => ?_) (fun hc20 => ?_) | refine wp_condN rfl (fun hc20 => ?_) (fun hc20 => ?_) | refine wp_condNB rfl (fun hc20 => ?_) (fun hc20 => ?_) | refine wp_cond' rfl (fun hc20 => ?_) (fun hc20 => ?_)
    · refine wp_seq' fun K8 hK8 => ?_
      refine wp_reg ?_
      refine ol_r (r_assign rfl) rfl ?_
      refine ol_r (r_assign rfl) rfl ?_
      refine ol_r (r_assign rfl) rfl ?_
      refine ol_r (r_assign rfl) rfl ?_
      refine ol_nil (to_k0 (fun _ _ h => h) (hK8 _ _ ?_))
      clear hK8
      refine hQ.ret (rvs4 (rv_t rfl) (rv_t rfl) (rv_t rfl) (rv_t rfl)) (fun _ _ h => h) fun w hb hs hB => ?_
      first
        | exact ⟨0, 0, false, _, by unfold LeastR; rw [if_pos hc16]; exact ⟨rfl, rfl, rfl, rfl⟩, rfl, hb⟩
        | exact ⟨0, 0, false, _, by unfold LeastR; rw [if_neg hc16, if_neg (by simpa using hc20)]; exact ⟨rfl, rfl, rfl, rfl⟩, rfl, hb⟩
        | (have hin' : i = xs.length := by omega
           subst hin'
           exact ⟨f, t, ok, 0, by unfold LeastR; rw [if_neg hc16, if_pos hin]; exact ⟨hL, rfl⟩, rfl, hb⟩)
    · refine wp_skip' (to_k0 (fun _ _ h => h) (hK6 _ _ ?_))
      clear hK6
      refine wp_seq' fun K9 hK9 => ?_
      refine wp_reg ?_
      refine ol_r (r_assign rfl) rfl ?_
      refine ol_r (r_assign rfl) rfl ?_
      refine ol_nil (to_k0 (fun _ _ h => h) (hK9 _ _ ?_))
      clear hK9
      refine wp_seq' fun K10 hK10 => ?_
      refine wp_seq' fun K11 hK11 => ?_
      refine wp_reg ?_
      have hok := streamR_ok (Decidable.not_not.1 hc16)
      have hin : inB sum 1 1000000000000000 = true := by simpa using hc20
      have hs := inB_iff.1 hin
      refine ol_r (r_move rfl) rfl ?_
      refine ol_r (r_len rfl sl22) rfl ?_
      refine ol_r (r_move rfl) rfl ?_
      refine ol_nil (to_k0 (fun _ _ h => h) (hK11 _ _ ?_))
      clear hK11
      refine wp_block' ?_
      apply wp_loopM (σ := Nat × Int × Int × Int × Int × Bool) (fun s => s.1 ≤ xs.length ∧ ∃ m f t : Nat, s.2.1 = m ∧ s.2.2.2.1 = f ∧ s.2.2.2.2.1 = t ∧ m ≤ s.1 ∧ pU xs s.1 = pU xs m ∧ s.2.2.1 = pS xs s.1 - pS xs m ∧ LeastOk xs sum (Upto s.1) f t s.2.2.2.2.2 ∧ Behind xs s.1 m f t s.2.2.2.2.2 ∧ f ≤ t ∧ t ≤ s.1) (fun s => [(23, .int .i64 s.1), (9, .int .i64 s.2.1), (10, .int .i64 s.2.2.1), (4, .int .i64 s.2.2.2.1), (5, .int .i64 s.2.2.2.2.1), (6, .bool s.2.2.2.2.2)]) [(0, _), (1, _), (7, _), (21, _), (22, _)] (fun s => []) [] (fun s => xs.length - s.1) ((0, 0, 0, 0, 0, false))
      · try dsimp only
        exact ⟨Nat.zero_le _, 0, 0, 0, rfl, rfl, rfl, Nat.le_refl _, rfl, by simp, LeastOk.start xs hs.1, fun b hb => by omega, Nat.le_refl _, Nat.le_refl _⟩
      · exact (sub_cons rfl (sub_cons rfl (sub_cons rfl (sub_cons rfl (sub_cons rfl (sub_cons rfl sub_nil))))))
      · exact (sub_cons rfl (sub_cons rfl (sub_cons rfl (sub_cons rfl (sub_cons rfl sub_nil)))))
      · exact subH_nil
      · exact subH_nil
      · rintro ⟨i, m', hv, f', t', ok⟩ ⟨hi, m, f, t, h1, h2, h3, hm, hu, hhv, hL, hB, hft, hti⟩
        dsimp only at h1 h2 h3 hi hm hu hhv hL hB hft hti ⊢
        subst h1
        subst h2
        subst h3
        intro K12 hK12
        refine wp_seq' fun K13 hK13 => ?_
        refine wp_reg ?_
        refine ol_r (r_lss rfl rfl) rfl ?_
        refine ol_nil (to_k0 (fun _ _ h => h) (hK13 _ _ ?_))
        clear hK13
        refine wp_seq' fun K14 hK14 => ?_
        first | refine wp_condD rfl (fun hc24 => ?_) (fun hc24 => ?_) | refine wp_condN rfl (fun hc24 => ?_) (fun hc24 => ?_) | refine wp_condNB rfl (fun hc24 => ?_) (fun hc24 => ?_) | refine wp_cond' rfl (fun hc24 => ?_) (fun hc24 => ?_)
        · refine wp_skip' (to_k0 (fun _ _ h => h) (hK14 _ _ ?_))
          clear hK14
          refine wp_seq' fun K15 hK15 => ?_
          refine wp_block' ?_
          refine wp_seq' fun K16 hK16 => ?_
          refine wp_reg ?_
          refine ol_r (r_move rfl) rfl ?_
          refine ol_ixr hl rfl rfl sl22 (by omega) rfl fun x26 hx26 => ?_
          try simp only [Int.toNat_natCast] at hx26
          refine ol_r (r_ldw rfl (fun w1 hb1 hs1 hB1 => show Loads _ _ _ _ (.int .i64 x26) from Rd.loads hl ty3 hx26 hb1)) rfl ?_
          refine ol_r (r_assign rfl) rfl ?_
          refine ol_r (r_assign rfl) rfl ?_
          refine ol_nil (to_k0 (fun _ _ h => h) (hK16 _ _ ?_))
          clear hK16
          refine wp_seq' fun K17 hK17 => ?_
          refine wp_seq' fun K18 hK18 => ?_
          refine wp_reg ?_
          have q1 := pS_bd hok.1 hok.2 i
          have q2 := pS_bd hok.1 hok.2 m
          have qx := hok.2 _ (List.mem_of_getElem? hx26)
          have qs := pS_succ hx26
          have qu := pU_succ hx26
          refine ol_r (r_move rfl) rfl ?_
          refine ol_r (r_lss rfl rfl) rfl ?_
          refine ol_nil (to_k0 (fun _ _ h => h) (hK18 _ _ ?_))
          clear hK18
          first | refine wp_condD rfl (fun hc29 => ?_) (fun hc29 => ?_) | refine wp_condN rfl (fun hc29 => ?_) (fun hc29 => ?_) | refine wp_condNB rfl (fun hc29 => ?_) (fun hc29 => ?_) | refine wp_cond' rfl (fun hc29 => ?_) (fun hc29 => ?_)
          · refine wp_seq' fun K19 hK19 => ?_
            refine wp_reg ?_
            refine ol_r (r_move rfl) rfl ?_
            refine ol_r (r_add rfl rfl (by omega)) rfl ?_
            refine ol_r (r_assign rfl) rfl ?_
            refine ol_r (r_assign rfl) rfl ?_
            refine ol_nil (to_k0 (fun _ _ h => h) (hK19 _ _ ?_))
            clear hK19
            refine wp_exit' (to_k0 (fun _ _ h => h) (hK15 _ _ ?_))
            clear hK15
            refine wp_reg ?_
            refine ol_r (r_add rfl rfl (by omega)) rfl ?_
            refine ol_r (r_move rfl) rfl ?_
            refine ol_nil (to_k0 (fun _ _ h => h) (hK12 ((i + 1, _, _, _, _, _)) _ _ ?_ ?_ (sub_cons rfl (sub_cons rfl (sub_cons rfl (sub_cons rfl (sub_cons rfl (sub_cons rfl sub_nil)))))) (sub_cons rfl (sub_cons rfl (sub_cons rfl (sub_cons rfl (sub_cons rfl sub_nil))))) (by exact subH_nil) subH_nil))
            · try dsimp only
              first
                | exact ⟨by omega, i + 1, f, t, by omega, rfl, rfl, Nat.le_refl _, rfl, by omega, least_unknown hL hx26 hc29 hs.1, unknown_next hx26 hc29 _ _ _, hft, by omega⟩
                | (have hN : pS xs (i + 1) - pS xs (m2 + 1) < sum := by omega
                   first
                     | (obtain ⟨g1, g2⟩ := least_take hL hm2 hu2 hN (by omega) (by first | exact .inl hs55 | exact .inl (by simpa using hs57) | (right; omega) | (left; simp_all; done))
                        exact ⟨by omega, m2, m2, i + 1, rfl, rfl, by omega, by omega, hu2, hhv2, g1, g2, by omega, by omega⟩)
                     | (obtain ⟨g1, g2⟩ := least_keep hL (by rw [← hhv2]; exact hW) hm2 hN (by first | (left; omega) | (right; exact ⟨by simp_all, by omega⟩))
                        exact ⟨by omega, m2, f, t, rfl, rfl, rfl, by omega, hu2, hhv2, g1, g2, hft, by omega⟩))
            · try dsimp only
              omega
          · refine wp_skip' (to_k0 (fun _ _ h => h) (hK17 _ _ ?_))
            clear hK17
            refine wp_seq' fun K20 hK20 => ?_
            refine wp_reg ?_
            refine ol_r (r_move rfl) rfl ?_
            refine ol_r (r_move rfl) rfl ?_
            refine ol_r (r_add rfl rfl (by omega)) rfl ?_
            refine ol_r (r_assign rfl) rfl ?_
            refine ol_nil (to_k0 (fun _ _ h => h) (hK20 _ _ ?_))
            clear hK20
            refine wp_seq' fun K21 hK21 => ?_
            refine wp_block' ?_
            apply wp_loopM (σ := Nat × Int) (fun s => s.1 ≤ i ∧ pU xs (i + 1) = pU xs s.1 ∧ s.2 = pS xs (i + 1) - pS xs s.1 ∧ Within xs sum (i + 1) s.1 f t ok s.2) (fun s => [(9, .int .i64 s.1), (10, .int .i64 s.2)]) [(0, _), (1, _), (4, _), (5, _), (6, _), (7, _), (11, _), (21, _), (22, _), (23, _)] (fun s => []) [] (fun s => i + 1 - s.1) ((m, hv + x26))
            · try dsimp only
              exact ⟨hm, by rw [qu, nv_nn hc29]; omega, by rw [qs, pv_nn hc29]; omega, behind_next hB hm _ _⟩
            · exact (sub_cons rfl (sub_cons rfl sub_nil))
            · exact (sub_cons rfl (sub_cons rfl (sub_cons rfl (sub_cons rfl (sub_cons rfl (sub_cons rfl (sub_cons rfl (sub_cons rfl (sub_cons rfl (sub_cons rfl sub_nil))))))))))
            · exact subH_nil
            · exact subH_nil
            · rintro ⟨m2, hv2⟩ ⟨hm2, hu2, hhv2, hW⟩
              dsimp only at hm2 hu2 hhv2 hW ⊢
              intro K22 hK22
              refine wp_seq' fun K23 hK23 => ?_
              refine wp_seq' fun K24 hK24 => ?_
              refine wp_reg ?_
              refine ol_r (r_move rfl) rfl ?_
              refine ol_r (r_move rfl) rfl ?_
              refine ol_r (r_move rfl) rfl ?_
              refine ol_ixr hl rfl rfl sl22 (by omega) rfl fun x38 hx38 => ?_
              try simp only [Int.toNat_natCast] at hx38
              refine ol_r (r_ldw rfl (fun w1 hb1 hs1 hB1 => show Loads _ _ _ _ (.int .i64 x38) from Rd.loads hl ty3 hx38 hb1)) rfl ?_
              have r1 := pS_succ hx38
              have r2 := pU_succ hx38
              have r3 := pU_mono (xs := xs) (show m2 + 1 ≤ i + 1 by omega)
              have hnn : ¬x38 < 0 := fun h => by rw [nv_neg h] at r2; omega
              rw [pv_nn hnn] at r1
              rw [nv_nn hnn] at r2
              have r4 := hok.2 _ (List.mem_of_getElem? hx38)
              have r5 := pS_bd hok.1 hok.2 m2
              have r6 := pS_bd hok.1 hok.2 (i + 1)
              refine ol_r (r_sub rfl rfl (by omega)) rfl ?_
              refine ol_r (r_move rfl) rfl ?_
              refine ol_r (r_geq rfl rfl) rfl ?_
              refine ol_nil (to_k0 (fun _ _ h => h) (hK24 _ _ ?_))
              clear hK24
              first | refine wp_condD rfl (fun hc42 => ?_) (fun hc42 => ?_) | refine wp_condN rfl (fun hc42 => ?_) (fun hc42 => ?_) | refine wp_condNB rfl (fun hc42 => ?_) (fun hc42 => ?_) | refine wp_cond' rfl (fun hc42 => ?_) (fun hc42 => ?_)
              · refine wp_skip' (to_k0 (fun _ _ h => h) (hK23 _ _ ?_))
                clear hK23
                refine wp_block' ?_
                refine wp_seq' fun K25 hK25 => ?_
                refine wp_reg ?_
                refine ol_r (r_move rfl) rfl ?_
                refine ol_r (r_move rfl) rfl ?_
                refine ol_r (r_move rfl) rfl ?_
                refine ol_ixr hl rfl rfl sl22 (by omega) rfl fun x46 hx46 => ?_
                try simp only [Int.toNat_natCast] at hx46
                refine ol_r (r_ldw rfl (fun w1 hb1 hs1 hB1 => show Loads _ _ _ _ (.int .i64 x46) from Rd.loads hl ty3 hx46 hb1)) rfl ?_
                have h46 : x46 = x38 := by rw [hx38] at hx46; cases hx46; rfl
                subst h46
                refine ol_r (r_sub rfl rfl (by omega)) rfl ?_
                refine ol_r (r_assign rfl) rfl ?_
                refine ol_nil (to_k0 (fun _ _ h => h) (hK25 _ _ ?_))
                clear hK25
                refine wp_reg ?_
                refine ol_r (r_move rfl) rfl ?_
                refine ol_r (r_add rfl rfl (by omega)) rfl ?_
                refine ol_r (r_assign rfl) rfl ?_
                refine ol_nil (to_k0 (fun _ _ h => h) (hK22 ((m2 + 1, _)) _ _ ?_ ?_ (sub_cons rfl (sub_cons rfl sub_nil)) (sub_cons rfl (sub_cons rfl (sub_cons rfl (sub_cons rfl (sub_cons rfl (sub_cons rfl (sub_cons rfl (sub_cons rfl (sub_cons rfl (sub_cons rfl sub_nil)))))))))) (by exact subH_nil) subH_nil))
                · try dsimp only
                  have hmi : m2 + 1 ≤ i := by
                    rcases Nat.lt_or_ge m2 i with h | h
                    · exact h
                    · have : m2 = i := by omega
                      subst this; omega
                  exact ⟨hmi, by omega, by omega, fun b hb => .inr (.inr hc42)⟩
                · try dsimp only
                  omega
              · refine wp_exit' (to_k0 (fun _ _ h => h) (hK21 _ _ ?_))
                clear hK21
                refine wp_seq' fun K26 hK26 => ?_
                refine wp_reg ?_
                refine ol_r (r_move rfl) rfl ?_
                refine ol_r (r_move rfl) rfl ?_
                refine ol_r (r_geq rfl rfl) rfl ?_
                refine ol_r (r_move rfl) rfl ?_
                refine ol_split (d := 54) rfl (fun hs54 => ?_) (fun hs54 => ?_)
                · have phs54 := hs54; try simp only [decide_eq_true_eq, decide_eq_false_iff_not, Bool.not_eq_true', Bool.not_eq_false', Bool.not_true, Bool.not_false] at phs54
                  refine ol_g rfl rfl hs54 ?_
                  refine ol_r (r_move rfl) rfl ?_
                  refine ol_g rfl rfl hs54 ?_
                  refine ol_r (r_not rfl) rfl ?_
                  refine ol_g rfl rfl hs54 ?_
                  refine ol_r (r_move rfl) rfl ?_
                  refine ol_split (d := 57) rfl (fun hs57 => ?_) (fun hs57 => ?_)
                  · have phs57 := hs57; try simp only [decide_eq_true_eq, decide_eq_false_iff_not, Bool.not_eq_true', Bool.not_eq_false', Bool.not_true, Bool.not_false] at phs57
                    refine ol_s rfl rfl hs57 rfl ?_
                    refine ol_s rfl rfl hs57 rfl ?_
                    refine ol_s rfl rfl hs57 rfl ?_
                    refine ol_s rfl rfl hs57 rfl ?_
                    refine ol_s rfl rfl hs57 rfl ?_
                    refine ol_s rfl rfl hs57 rfl ?_
                    refine ol_s rfl rfl hs57 rfl ?_
                    refine ol_s rfl rfl hs57 rfl ?_
                    refine ol_g rfl rfl hs54 ?_
                    refine ol_r (r_pickT rfl hs57 rfl) rfl ?_
                    refine ol_r (r_pickT rfl hs54 rfl) rfl ?_
                    refine ol_nil (to_k0 (fun _ _ h => h) (hK26 _ _ ?_))
                    clear hK26
                    refine wp_condT rfl ?_
                    refine wp_reg ?_
                    refine ol_r (r_move rfl) rfl ?_
                    refine ol_r (r_move rfl) rfl ?_
                    refine ol_r (r_add rfl rfl (by omega)) rfl ?_
                    refine ol_r (r_assign rfl) rfl ?_
                    refine ol_r (r_assign rfl) rfl ?_
                    refine ol_r (r_assign rfl) rfl ?_
                    refine ol_nil (to_k0 (fun _ _ h => h) (hK15 _ _ ?_))
                    clear hK15
                    refine wp_reg ?_
                    refine ol_r (r_add rfl rfl (by omega)) rfl ?_
                    refine ol_r (r_move rfl) rfl ?_
                    refine ol_nil (to_k0 (fun _ _ h => h) (hK12 ((i + 1, _, _, _, _, _)) _ _ ?_ ?_ (sub_cons rfl (sub_cons rfl (sub_cons rfl (sub_cons rfl (sub_cons rfl (sub_cons rfl sub_nil)))))) (sub_cons rfl (sub_cons rfl (sub_cons rfl (sub_cons rfl (sub_cons rfl sub_nil))))) (by exact subH_nil) subH_nil))
                    · try dsimp only
                      first
                        | exact ⟨by omega, i + 1, f, t, by omega, rfl, rfl, Nat.le_refl _, rfl, by omega, least_unknown hL hx26 hc29 hs.1, unknown_next hx26 hc29 _ _ _, hft, by omega⟩
                        | (have hN : pS xs (i + 1) - pS xs (m2 + 1) < sum := by omega
                           first
                             | (obtain ⟨g1, g2⟩ := least_take hL hm2 hu2 hN (by omega) (by first | exact .inl hs55 | exact .inl (by simpa using hs57) | (right; omega) | (left; simp_all; done))
                                exact ⟨by omega, m2, m2, i + 1, rfl, rfl, by omega, by omega, hu2, hhv2, g1, g2, by omega, by omega⟩)
                             | (obtain ⟨g1, g2⟩ := least_keep hL (by rw [← hhv2]; exact hW) hm2 hN (by first | (left; omega) | (right; exact ⟨by simp_all, by omega⟩))
                                exact ⟨by omega, m2, f, t, rfl, rfl, rfl, by omega, hu2, hhv2, g1, g2, hft, by omega⟩))
                    · try dsimp only
                      omega
                  · have phs57 := hs57; try simp only [decide_eq_true_eq, decide_eq_false_iff_not, Bool.not_eq_true', Bool.not_eq_false', Bool.not_true, Bool.not_false] at phs57
                    refine ol_g rfl rfl hs57 ?_
                    refine ol_r (r_move rfl) rfl ?_
                    refine ol_g rfl rfl hs57 ?_
                    refine ol_r (r_add rfl rfl (by omega)) rfl ?_
                    refine ol_g rfl rfl hs57 ?_
                    refine ol_r (r_move rfl) rfl ?_
                    refine ol_g rfl rfl hs57 ?_
                    refine ol_r (r_sub rfl rfl (by omega)) rfl ?_
                    refine ol_g rfl rfl hs57 ?_
                    refine ol_r (r_move rfl) rfl ?_
                    refine ol_g rfl rfl hs57 ?_
                    refine ol_r (r_move rfl) rfl ?_
                    refine ol_g rfl rfl hs57 ?_
                    refine ol_r (r_sub rfl rfl (by omega)) rfl ?_
                    refine ol_g rfl rfl hs57 ?_
                    refine ol_r (r_lss rfl rfl) rfl ?_
                    refine ol_g rfl rfl hs54 ?_
                    refine ol_r (r_pickF rfl hs57 rfl) rfl ?_
                    refine ol_r (r_pickT rfl hs54 rfl) rfl ?_
                    refine ol_nil (to_k0 (fun _ _ h => h) (hK26 _ _ ?_))
                    clear hK26
                    first | refine wp_condD rfl (fun hc67 => ?_) (fun hc67 => ?_) | refine wp_condN rfl (fun hc67 => ?_) (fun hc67 => ?_) | refine wp_condNB rfl (fun hc67 => ?_) (fun hc67 => ?_) | refine wp_cond' rfl (fun hc67 => ?_) (fun hc67 => ?_)
                    · refine wp_reg ?_
                      refine ol_r (r_move rfl) rfl ?_
                      refine ol_r (r_move rfl) rfl ?_
                      refine ol_r (r_add rfl rfl (by omega)) rfl ?_
                      refine ol_r (r_assign rfl) rfl ?_
                      refine ol_r (r_assign rfl) rfl ?_
                      refine ol_r (r_assign rfl) rfl ?_
                      refine ol_nil (to_k0 (fun _ _ h => h) (hK15 _ _ ?_))
                      clear hK15
                      refine wp_reg ?_
                      refine ol_r (r_add rfl rfl (by omega)) rfl ?_
                      refine ol_r (r_move rfl) rfl ?_
                      refine ol_nil (to_k0 (fun _ _ h => h) (hK12 ((i + 1, _, _, _, _, _)) _ _ ?_ ?_ (sub_cons rfl (sub_cons rfl (sub_cons rfl (sub_cons rfl (sub_cons rfl (sub_cons rfl sub_nil)))))) (sub_cons rfl (sub_cons rfl (sub_cons rfl (sub_cons rfl (sub_cons rfl sub_nil))))) (by exact subH_nil) subH_nil))
                      · try dsimp only
                        first
                          | exact ⟨by omega, i + 1, f, t, by omega, rfl, rfl, Nat.le_refl _, rfl, by omega, least_unknown hL hx26 hc29 hs.1, unknown_next hx26 hc29 _ _ _, hft, by omega⟩
                          | (have hN : pS xs (i + 1) - pS xs (m2 + 1) < sum := by omega
                             first
                               | (obtain ⟨g1, g2⟩ := least_take hL hm2 hu2 hN (by omega) (by first | exact .inl hs55 | exact .inl (by simpa using hs57) | (right; omega) | (left; simp_all; done))
                                  exact ⟨by omega, m2, m2, i + 1, rfl, rfl, by omega, by omega, hu2, hhv2, g1, g2, by omega, by omega⟩)
                               | (obtain ⟨g1, g2⟩ := least_keep hL (by rw [← hhv2]; exact hW) hm2 hN (by first | (left; omega) | (right; exact ⟨by simp_all, by omega⟩))
                                  exact ⟨by omega, m2, f, t, rfl, rfl, rfl, by omega, hu2, hhv2, g1, g2, hft, by omega⟩))
                      · try dsimp only
                        omega
                    · refine wp_skip' (to_k0 (fun _ _ h => h) (hK15 _ _ ?_))
                      clear hK15
                      refine wp_reg ?_
                      refine ol_r (r_add rfl rfl (by omega)) rfl ?_
                      refine ol_r (r_move rfl) rfl ?_
                      refine ol_nil (to_k0 (fun _ _ h => h) (hK12 ((i + 1, _, _, _, _, _)) _ _ ?_ ?_ (sub_cons rfl (sub_cons rfl (sub_cons rfl (sub_cons rfl (sub_cons rfl (sub_cons rfl sub_nil)))))) (sub_cons rfl (sub_cons rfl (sub_cons rfl (sub_cons rfl (sub_cons rfl sub_nil))))) (by exact subH_nil) subH_nil))
                      · try dsimp only
                        first
                          | exact ⟨by omega, i + 1, f, t, by omega, rfl, rfl, Nat.le_refl _, rfl, by omega, least_unknown hL hx26 hc29 hs.1, unknown_next hx26 hc29 _ _ _, hft, by omega⟩
                          | (have hN : pS xs (i + 1) - pS xs (m2 + 1) < sum := by omega
                             first
                               | (obtain ⟨g1, g2⟩ := least_take hL hm2 hu2 hN (by omega) (by first | exact .inl hs55 | exact .inl (by simpa using hs57) | (right; omega) | (left; simp_all; done))
                                  exact ⟨by omega, m2, m2, i + 1, rfl, rfl, by omega, by omega, hu2, hhv2, g1, g2, by omega, by omega⟩)
                               | (obtain ⟨g1, g2⟩ := least_keep hL (by rw [← hhv2]; exact hW) hm2 hN (by first | (left; omega) | (right; exact ⟨by simp_all, by omega⟩))
                                  exact ⟨by omega, m2, f, t, rfl, rfl, rfl, by omega, hu2, hhv2, g1, g2, hft, by omega⟩))
                      · try dsimp only
                        omega
                · have phs54 := hs54; try simp only [decide_eq_true_eq, decide_eq_false_iff_not, Bool.not_eq_true', Bool.not_eq_false', Bool.not_true, Bool.not_false] at phs54
                  refine ol_s rfl rfl hs54 rfl ?_
                  refine ol_s rfl rfl hs54 rfl ?_
                  refine ol_s rfl rfl hs54 rfl ?_
                  refine ol_u rfl rfl rfl ?_
                  refine ol_u rfl rfl rfl ?_
                  refine ol_u rfl rfl rfl ?_
                  refine ol_u rfl rfl rfl ?_
                  refine ol_u rfl rfl rfl ?_
                  refine ol_u rfl rfl rfl ?_
                  refine ol_u rfl rfl rfl ?_
                  refine ol_u rfl rfl rfl ?_
                  refine ol_s rfl rfl hs54 rfl ?_
                  refine ol_r (r_pickF rfl hs54 rfl) rfl ?_
                  refine ol_nil (to_k0 (fun _ _ h => h) (hK26 _ _ ?_))
                  clear hK26
                  refine wp_condF rfl ?_
                  refine wp_skip' (to_k0 (fun _ _ h => h) (hK15 _ _ ?_))
                  clear hK15
                  refine wp_reg ?_
                  refine ol_r (r_add rfl rfl (by omega)) rfl ?_
                  refine ol_r (r_move rfl) rfl ?_
                  refine ol_nil (to_k0 (fun _ _ h => h) (hK12 ((i + 1, _, _, _, _, _)) _ _ ?_ ?_ (sub_cons rfl (sub_cons rfl (sub_cons rfl (sub_cons rfl (sub_cons rfl (sub_cons rfl sub_nil)))))) (sub_cons rfl (sub_cons rfl (sub_cons rfl (sub_cons rfl (sub_cons rfl sub_nil))))) (by exact subH_nil) subH_nil))
                  · try dsimp only
                    first
                      | exact ⟨by omega, i + 1, f, t, by omega, rfl, rfl, Nat.le_refl _, rfl, by omega, least_unknown hL hx26 hc29 hs.1, unknown_next hx26 hc29 _ _ _, hft, by omega⟩
                      | (have hN : pS xs (i + 1) - pS xs (m2 + 1) < sum := by omega
                         first
                           | (obtain ⟨g1, g2⟩ := least_take hL hm2 hu2 hN (by omega) (by first | exact .inl hs55 | exact .inl (by simpa using hs57) | (right; omega) | (left; simp_all; done))
                              exact ⟨by omega, m2, m2, i + 1, rfl, rfl, by omega, by omega, hu2, hhv2, g1, g2, by omega, by omega⟩)
                           | (obtain ⟨g1, g2⟩ := least_keep hL (by rw [← hhv2]; exact hW) hm2 hN (by first | (left; omega) | (right; exact ⟨by simp_all, by omega⟩))
                              exact ⟨by omega, m2, f, t, rfl, rfl, rfl, by omega, hu2, hhv2, g1, g2, hft, by omega⟩))
                  · try dsimp only
                    omega
        · refine wp_exit' (to_k0 (fun _ _ h => h) (hK10 _ _ ?_))
          clear hK10
          refine wp_seq' fun K27 hK27 => ?_
          refine wp_reg ?_
          refine ol_r (r_move rfl) rfl ?_
          refine ol_r (r_move rfl) rfl ?_
          refine ol_r (r_move rfl) rfl ?_
          refine ol_r (r_assign rfl) rfl ?_
          refine ol_r (r_assign rfl) rfl ?_
          refine ol_r (r_assign rfl) rfl ?_
          refine ol_r (r_assign rfl) rfl ?_
          refine ol_nil (to_k0 (fun _ _ h => h) (hK27 _ _ ?_))
          clear hK27
          refine hQ.ret (rvs4 (rv_t rfl) (rv_t rfl) (rv_t rfl) (rv_t rfl)) (fun _ _ h => h) fun w hb hs hB => ?_
          first
            | exact ⟨0, 0, false, _, by unfold LeastR; rw [if_pos hc16]; exact ⟨rfl, rfl, rfl, rfl⟩, rfl, hb⟩
            | exact ⟨0, 0, false, _, by unfold LeastR; rw [if_neg hc16, if_neg (by simpa using hc20)]; exact ⟨rfl, rfl, rfl, rfl⟩, rfl, hb⟩
            | (have hin' : i = xs.length := by omega
               subst hin'
               exact ⟨f, t, ok, 0, by unfold LeastR; rw [if_neg hc16, if_pos hin]; exact ⟨hL, rfl⟩, rfl, hb⟩)
theorem ref_Least (a : Option Addr) (n cap : Nat) (xs : List Int) (sum : Int) (w : World) (hl : Rd encI w.heap.size w a n cap xs) :
    Calls Try.prog 19 #[.slice a n cap, .int .i64 sum] w fun e w' => ∃ (f t : Nat) (ok : Bool) (c : Int), LeastR xs sum f t ok c ∧ e = .returned (.tuple #[.int .i64 f, .int .i64 t, .bool ok, .int .i64 c]) ∧ Below w.heap.size w w' := by
  have hn := hl.len
  have hfit := hl.fit
  subst hn
  refine enterQ (N := 71) (H := []) (B := w.heap.size) (args := [_, _]) Try.func19 rfl rfl rfl (Nat.le_refl _) (Sat.nil _ _) fun Q hQ => ?_
  refine wp_seq' fun K1 hK1 => ?_
  refine wp_reg ?_
  refine ol_r (r_assign rfl) rfl ?_
  refine ol_r (r_assign rfl) rfl ?_
  refine ol_r (r_assign rfl) rfl ?_
  refine ol_r (r_assign rfl) rfl ?_
  refine ol_nil (to_k0 (fun _ _ h => h) (hK1 _ _ ?_))
  clear hK1
  refine wp_seq' fun K2 hK2 => ?_
  refine wp_seq' fun K3 hK3 => ?_
  refine wp_reg ?_
  refine ol_r (r_move rfl) rfl ?_
  refine ol_call rfl rfl cb21 rfl (fun w1 hb1 hs1 hB1 => Calls.mono (ref_CheckStream _ _ _ xs _ (hl.at hb1 hB1)) ?_)
  rintro e w2 ⟨rfl, hb2⟩
  refine After.below rfl hb1 hs1 hB1 hb2 ?_
  clear hb2 hB1 hs1 hb1 w2 w1
  refine ol_r (r_assign rfl) rfl ?_
  refine ol_nil (to_k0 (fun _ _ h => h) (hK3 _ _ ?_))
  clear hK3
  refine wp_seq' fun K4 hK4 => ?_
  refine wp_reg ?_
  refine ol_r (r_move rfl) rfl ?_
  refine ol_r (r_neq rfl rfl) rfl ?_
  refine ol_nil (to_k0 (fun _ _ h => h) (hK4 _ _ ?_))
  clear hK4
  first | refine wp_condD rfl (fun hc17 => ?_) (fun hc17 => ?_) | refine wp_condN rfl (fun hc17 => ?_) (fun hc17 => ?_) | refine wp_condNB rfl (fun hc17 => ?_) (fun hc17 => ?_) | refine wp_cond' rfl (fun hc17 => ?_) (fun hc17 => ?_)
  · refine wp_seq' fun K5 hK5 => ?_
    refine wp_reg ?_
    refine ol_r (r_move rfl) rfl ?_
    refine ol_r (r_assign rfl) rfl ?_
    refine ol_r (r_assign rfl) rfl ?_
    refine ol_r (r_assign rfl) rfl ?_
    refine ol_r (r_assign rfl) rfl ?_
    refine ol_nil (to_k0 (fun _ _ h => h) (hK5 _ _ ?_))
    clear hK5
    refine hQ.ret (rvs4 (rv_t rfl) (rv_t rfl) (rv_t rfl) (rv_t rfl)) (fun _ _ h => h) fun w hb hs hB => ?_
    first
      | exact ⟨0, 0, false, _, by unfold LeastR; rw [if_pos hc17]; exact ⟨rfl, rfl, rfl, rfl⟩, rfl, hb⟩
      | exact ⟨0, 0, false, _, by unfold LeastR; rw [if_neg hc17, if_neg (by rw [inB_iff]; omega)]; exact ⟨rfl, rfl, rfl, rfl⟩, rfl, hb⟩
      | (have hin' : i = xs.length := by omega
         subst hin'
         exact ⟨f, t, ok, 0, by unfold LeastR; rw [if_neg hc17, if_pos (inB_iff.2 (by omega))]; exact ⟨hL, rfl⟩, rfl, hb⟩)
  · refine wp_skip' (to_k0 (fun _ _ h => h) (hK2 _ _ ?_))
    clear hK2
    refine wp_seq' fun K6 hK6 => ?_
    refine wp_seq' fun K7 hK7 => ?_
    refine wp_reg ?_
    refine ol_r (r_move rfl) rfl ?_
    refine ol_r (r_lss rfl rfl) rfl ?_
    refine ol_r (r_move rfl) rfl ?_
    refine ol_split (d := 21) rfl (fun hs21 => ?_) (fun hs21 => ?_)
    · have phs21 := hs21; try simp only [decide_eq_true_eq, decide_eq_false_iff_not, Bool.not_eq_true', Bool.not_eq_false', Bool.not_true, Bool.not_false] at phs21
      refine ol_s rfl rfl hs21 rfl ?_
      refine ol_s rfl rfl hs21 rfl ?_
      refine ol_r (r_pickT rfl hs21 rfl) rfl ?_
      refine ol_nil (to_k0 (fun _ _ h => h) (hK7 _ _ ?_))
      clear hK7
      refine wp_condT rfl ?_
      refine wp_seq' fun K8 hK8 => ?_
      refine wp_reg ?_
      refine ol_r (r_assign rfl) rfl ?_
      refine ol_r (r_assign rfl) rfl ?_
      refine ol_r (r_assign rfl) rfl ?_
      refine ol_r (r_assign rfl) rfl ?_
      refine ol_nil (to_k0 (fun _ _ h => h) (hK8 _ _ ?_))
      clear hK8
      refine hQ.ret (rvs4 (rv_t rfl) (rv_t rfl) (rv_t rfl) (rv_t rfl)) (fun _ _ h => h) fun w hb hs hB => ?_
      first
        | exact ⟨0, 0, false, _, by unfold LeastR; rw [if_pos hc17]; exact ⟨rfl, rfl, rfl, rfl⟩, rfl, hb⟩
        | exact ⟨0, 0, false, _, by unfold LeastR; rw [if_neg hc17, if_neg (by rw [inB_iff]; omega)]; exact ⟨rfl, rfl, rfl, rfl⟩, rfl, hb⟩
        | (have hin' : i = xs.length := by omega
           subst hin'
           exact ⟨f, t, ok, 0, by unfold LeastR; rw [if_neg hc17, if_pos (inB_iff.2 (by omega))]; exact ⟨hL, rfl⟩, rfl, hb⟩)
    · have phs21 := hs21; try simp only [decide_eq_true_eq, decide_eq_false_iff_not, Bool.not_eq_true', Bool.not_eq_false', Bool.not_true, Bool.not_false] at phs21
      refine ol_g rfl rfl hs21 ?_
      refine ol_r (r_move rfl) rfl ?_
      refine ol_g rfl rfl hs21 ?_
      refine ol_r (r_gtr rfl rfl) rfl ?_
      refine ol_r (r_pickF rfl hs21 rfl) rfl ?_
      refine ol_nil (to_k0 (fun _ _ h => h) (hK7 _ _ ?_))
      clear hK7
      first | refine wp_condD rfl (fun hc24 => ?_) (fun hc24 => ?_) | refine wp_condN rfl (fun hc24 => ?_) (fun hc24 => ?_) | refine wp_condNB rfl (fun hc24 => ?_) (fun hc24 => ?_) | refine wp_cond' rfl (fun hc24 => ?_) (fun hc24 => ?_)
      · refine wp_seq' fun K9 hK9 => ?_
        refine wp_reg ?_
        refine ol_r (r_assign rfl) rfl ?_
        refine ol_r (r_assign rfl) rfl ?_
        refine ol_r (r_assign rfl) rfl ?_
        refine ol_r (r_assign rfl) rfl ?_
        refine ol_nil (to_k0 (fun _ _ h => h) (hK9 _ _ ?_))
        clear hK9
        refine hQ.ret (rvs4 (rv_t rfl) (rv_t rfl) (rv_t rfl) (rv_t rfl)) (fun _ _ h => h) fun w hb hs hB => ?_
        first
          | exact ⟨0, 0, false, _, by unfold LeastR; rw [if_pos hc17]; exact ⟨rfl, rfl, rfl, rfl⟩, rfl, hb⟩
          | exact ⟨0, 0, false, _, by unfold LeastR; rw [if_neg hc17, if_neg (by rw [inB_iff]; omega)]; exact ⟨rfl, rfl, rfl, rfl⟩, rfl, hb⟩
          | (have hin' : i = xs.length := by omega
             subst hin'
             exact ⟨f, t, ok, 0, by unfold LeastR; rw [if_neg hc17, if_pos (inB_iff.2 (by omega))]; exact ⟨hL, rfl⟩, rfl, hb⟩)
      · refine wp_skip' (to_k0 (fun _ _ h => h) (hK6 _ _ ?_))
        clear hK6
        refine wp_seq' fun K10 hK10 => ?_
        refine wp_reg ?_
        have hok := streamR_ok (Decidable.not_not.1 hc17)
        have hs : 1 ≤ sum ∧ sum ≤ 1000000000000000 := by omega
        refine ol_r (r_move rfl) rfl ?_
        refine ol_call rfl rfl cb72 rfl (fun w1 hb1 hs1 hB1 => ?_)
        refine Calls.mono (ref_sumsOf a _ cap xs _ (hl.at hb1 hB1) (Decidable.not_not.1 hc17)) ?_
        rintro e w2 ⟨a1, c1, a2, c2, rfl, hb2, hs2⟩
        refine After.more rfl hb1 hs1 hB1 hb2 hs2 ?_
        clear hs2 hb2 hB1 hs1 hb1 w2 w1
        refine ol_alloc 9 z99 rfl fun b9 => ?_
        refine ol_store (id := 9) rfl rfl rfl rfl sz99 rfl rfl (by first | decide | exact Nat.zero_lt_succ _ | simp) ?_
        refine ol_nil (to_k0 (fun _ _ h => h) (hK10 _ _ ?_))
        clear hK10
        refine wp_seq' fun K11 hK11 => ?_
        refine wp_reg ?_
        refine ol_r (r_assign rfl) rfl ?_
        refine ol_nil (to_k0 (fun _ _ h => h) (hK11 _ _ ?_))
        clear hK11
        refine wp_seq' fun K12 hK12 => ?_
        refine wp_seq' fun K13 hK13 => ?_
        refine wp_reg ?_
        refine ol_r (r_assign rfl) rfl ?_
        refine ol_nil (to_k0 (fun _ _ h => h) (hK13 _ _ ?_))
        clear hK13
        refine wp_block' ?_
        apply wp_loopM (σ := Nat × Int × Int × Int × Bool) (fun s => s.1 ≤ xs.length + 1 ∧ ∃ i m f t : Nat, s.1 = i + 1 ∧ s.2.1 = m ∧ s.2.2.1 = f ∧ s.2.2.2.1 = t ∧ m ≤ i ∧ pU xs i = pU xs m ∧ pS xs i - pS xs m < sum ∧ LeastOk xs sum (Upto i) f t s.2.2.2.2 ∧ BehindR xs i m f t s.2.2.2.2 ∧ f ≤ t ∧ t ≤ i) (fun s => [(11, .int .i64 s.1), (10, .int .i64 s.2.1), (4, .int .i64 s.2.2.1), (5, .int .i64 s.2.2.2.1), (6, .bool s.2.2.2.2)]) [(0, _), (1, _), (7, _), (9, _)] (fun s => []) [(9, _), (1001, _), (1002, _)] (fun s => xs.length + 1 - s.1) ((1, 0, 0, 0, false))
        · try dsimp only
          exact ⟨by omega, 0, 0, 0, 0, rfl, rfl, rfl, rfl, Nat.le_refl _, rfl, by omega, LeastOk.start xs hs.1, fun b hb => by omega, Nat.le_refl _, Nat.le_refl _⟩
        · exact (sub_cons rfl (sub_cons rfl (sub_cons rfl (sub_cons rfl (sub_cons rfl sub_nil)))))
        · exact (sub_cons rfl (sub_cons rfl (sub_cons rfl (sub_cons rfl sub_nil))))
        · exact subH_nil
        · exact (subH_same rfl (subH_same rfl (subH_same rfl subH_nil)))
        · rintro ⟨e', m', f', t', ok⟩ ⟨hi, i, m, f, t, h0, h1, h2, h3, hm, hu, hlt, hL, hB, hft, hti⟩
          dsimp only at h0 h1 h2 h3 hi hm hu hlt hL hB hft hti ⊢
          subst h0
          subst h1
          subst h2
          subst h3
          intro K14 hK14
          refine wp_seq' fun K15 hK15 => ?_
          refine wp_seq' fun K16 hK16 => ?_
          refine wp_reg ?_
          refine ol_r (r_move rfl) rfl ?_
          refine ol_r (r_move rfl) rfl ?_
          refine ol_r (r_len rfl sl22) rfl ?_
          refine ol_r (r_leq rfl rfl) rfl ?_
          refine ol_nil (to_k0 (fun _ _ h => h) (hK16 _ _ ?_))
          clear hK16
          first | refine wp_condD rfl (fun hc30 => ?_) (fun hc30 => ?_) | refine wp_condN rfl (fun hc30 => ?_) (fun hc30 => ?_) | refine wp_condNB rfl (fun hc30 => ?_) (fun hc30 => ?_) | refine wp_cond' rfl (fun hc30 => ?_) (fun hc30 => ?_)
          · refine wp_skip' (to_k0 (fun _ _ h => h) (hK15 _ _ ?_))
            clear hK15
            refine wp_seq' fun K17 hK17 => ?_
            refine wp_block' ?_
            refine wp_seq' fun K18 hK18 => ?_
            refine wp_seq' fun K19 hK19 => ?_
            refine wp_reg ?_
            refine ol_r (r_move rfl) rfl ?_
            refine ol_r (r_move rfl) rfl ?_
            refine ol_r (r_sub rfl rfl (by omega)) rfl ?_
            refine ol_ixr hl rfl rfl sl22 (by omega) rfl fun x36 hx36 => ?_
            try simp only [Int.toNat_natCast] at hx36
            refine ol_r (r_ldw rfl (fun w1 hb1 hs1 hB1 => show Loads _ _ _ _ (.int .i64 x36) from Rd.loads hl ty3 hx36 hb1)) rfl ?_
            have hg : xs[i]? = some x36 := by rw [← hx36]; congr 1; omega
            refine ol_r (r_lss rfl rfl) rfl ?_
            refine ol_nil (to_k0 (fun _ _ h => h) (hK19 _ _ ?_))
            clear hK19
            first | refine wp_condD rfl (fun hc38 => ?_) (fun hc38 => ?_) | refine wp_condN rfl (fun hc38 => ?_) (fun hc38 => ?_) | refine wp_condNB rfl (fun hc38 => ?_) (fun hc38 => ?_) | refine wp_cond' rfl (fun hc38 => ?_) (fun hc38 => ?_)
            · refine wp_seq' fun K20 hK20 => ?_
              refine wp_reg ?_
              refine ol_r (r_move rfl) rfl ?_
              refine ol_r (r_assign rfl) rfl ?_
              refine ol_nil (to_k0 (fun _ _ h => h) (hK20 _ _ ?_))
              clear hK20
              refine wp_exit' (to_k0 (fun _ _ h => h) (hK17 _ _ ?_))
              clear hK17
              refine wp_reg ?_
              refine ol_r (r_move rfl) rfl ?_
              refine ol_r (r_add rfl rfl (by omega)) rfl ?_
              refine ol_r (r_assign rfl) rfl ?_
              refine ol_nil (to_k0 (fun _ _ h => h) (hK14 ((i + 1 + 1, _, _, _, _)) _ _ ?_ ?_ (sub_cons rfl (sub_cons rfl (sub_cons rfl (sub_cons rfl (sub_cons rfl sub_nil))))) (sub_cons rfl (sub_cons rfl (sub_cons rfl (sub_cons rfl sub_nil)))) (by exact subH_nil) (subH_same rfl (subH_same rfl (subH_same rfl subH_nil)))))
              · try dsimp only
                first
                  | exact ⟨by omega, i + 1, i + 1, f, t, rfl, rfl, rfl, rfl, Nat.le_refl _, rfl, by omega, least_unknown hL hg hc38 hs.1, fun b hb => (unknown_next hg hc38 f t ok b hb).imp id (fun h => ⟨h.1, by omega⟩), hft, by omega⟩
                  | (have hN : pS xs (i + 1) - pS xs m2 < sum := by
                       first
                         | omega
                         | (have : m2 = i + 1 := by omega
                            subst this; omega)
                     exact ⟨by omega, i + 1, m2, f2, t2, rfl, rfl, rfl, rfl, hm2, hu2, hN, half_end hL2 hm2 hN, hB2, hft2, hti2⟩)
              · try dsimp only
                omega
            · refine wp_skip' (to_k0 (fun _ _ h => h) (hK18 _ _ ?_))
              clear hK18
              refine wp_block' ?_
              apply wp_loopM (σ := Nat × Int × Int × Bool) (fun s => s.1 ≤ i + 1 ∧ ∃ f2 t2 : Nat, s.2.1 = f2 ∧ s.2.2.1 = t2 ∧ pU xs (i + 1) = pU xs s.1 ∧ LeastOk xs sum (Half (i + 1) s.1) f2 t2 s.2.2.2 ∧ BehindR xs (i + 1) s.1 f2 t2 s.2.2.2 ∧ f2 ≤ t2 ∧ t2 ≤ i + 1) (fun s => [(10, .int .i64 s.1), (4, .int .i64 s.2.1), (5, .int .i64 s.2.2.1), (6, .bool s.2.2.2)]) [(0, _), (1, _), (7, _), (9, _), (11, _)] (fun s => []) [(9, _), (1001, _), (1002, _)] (fun s => i + 1 - s.1) ((m, f, t, ok))
              · try dsimp only
                have hh := half_start hL hB hm
                exact ⟨by omega, f, t, rfl, rfl, by rw [pU_succ hg, nv_nn hc38]; omega, hh.1, hh.2, hft, by omega⟩
              · exact (sub_cons rfl (sub_cons rfl (sub_cons rfl (sub_cons rfl sub_nil))))
              · exact (sub_cons rfl (sub_cons rfl (sub_cons rfl (sub_cons rfl (sub_cons rfl sub_nil)))))
              · exact subH_nil
              · exact (subH_same rfl (subH_same rfl (subH_same rfl subH_nil)))
              · rintro ⟨m2, f2', t2', ok2⟩ ⟨hm2, f2, t2, k1, k2, hu2, hL2, hB2, hft2, hti2⟩
                dsimp only at k1 k2 hm2 hu2 hL2 hB2 hft2 hti2 ⊢
                subst k1
                subst k2
                intro K21 hK21
                refine wp_seq' fun K22 hK22 => ?_
                refine wp_seq' fun K23 hK23 => ?_
                refine wp_reg ?_
                refine ol_r (r_move rfl) rfl ?_
                refine ol_r (r_move rfl) rfl ?_
                refine ol_r (r_lss rfl rfl) rfl ?_
                refine ol_nil (to_k0 (fun _ _ h => h) (hK23 _ _ ?_))
                clear hK23
                first | refine wp_condD rfl (fun hc42 => ?_) (fun hc42 => ?_) | refine wp_condN rfl (fun hc42 => ?_) (fun hc42 => ?_) | refine wp_condNB rfl (fun hc42 => ?_) (fun hc42 => ?_) | refine wp_cond' rfl (fun hc42 => ?_) (fun hc42 => ?_)
                · refine wp_skip' (to_k0 (fun _ _ h => h) (hK22 _ _ ?_))
                  clear hK22
                  refine wp_block' ?_
                  refine wp_seq' fun K24 hK24 => ?_
                  refine wp_reg ?_
                  refine ol_r (r_lda (id := 9) (n := 2) rfl rfl rfl ag99) rfl ?_
                  refine ol_r (r_move rfl) rfl ?_
                  refine ol_r (r_move rfl) rfl ?_
                  refine ol_call rfl rfl cb73 rfl (fun w1 hb1 hs1 hB1 => Calls.mono (ref_window _ _ _ _ _ xs xs.length m2 (i + 1) _ (Sat.rd hs1 (id := 1001) rfl rfl) (Sat.rd hs1 (id := 1002) rfl rfl) rfl (by omega) (by omega) hok.1 hok.2) ?_)
                  rintro e w2 ⟨rfl, hb2⟩
                  refine After.below rfl hb1 hs1 hB1 hb2 ?_
                  clear hb2 hB1 hs1 hb1 w2 w1
                  refine ol_r (r_move rfl) rfl ?_
                  refine ol_r (r_extract rfl rfl) rfl ?_
                  refine ol_r (r_extract rfl rfl) rfl ?_
                  refine ol_r (r_assign rfl) rfl ?_
                  refine ol_r (r_assign rfl) rfl ?_
                  refine ol_nil (to_k0 (fun _ _ h => h) (hK24 _ _ ?_))
                  clear hK24
                  refine wp_seq' fun K25 hK25 => ?_
                  refine wp_seq' fun K26 hK26 => ?_
                  refine wp_reg ?_
                  refine ol_r (r_move rfl) rfl ?_
                  refine ol_r (r_move rfl) rfl ?_
                  refine ol_r (r_lss rfl rfl) rfl ?_
                  refine ol_nil (to_k0 (fun _ _ h => h) (hK26 _ _ ?_))
                  clear hK26
                  first | refine wp_condD rfl (fun hc52 => ?_) (fun hc52 => ?_) | refine wp_condN rfl (fun hc52 => ?_) (fun hc52 => ?_) | refine wp_condNB rfl (fun hc52 => ?_) (fun hc52 => ?_) | refine wp_cond' rfl (fun hc52 => ?_) (fun hc52 => ?_)
                  · refine wp_exit' (to_k0 (fun _ _ h => h) (hK17 _ _ ?_))
                    clear hK17
                    refine wp_reg ?_
                    refine ol_r (r_move rfl) rfl ?_
                    refine ol_r (r_add rfl rfl (by omega)) rfl ?_
                    refine ol_r (r_assign rfl) rfl ?_
                    refine ol_nil (to_k0 (fun _ _ h => h) (hK14 ((i + 1 + 1, _, _, _, _)) _ _ ?_ ?_ (sub_cons rfl (sub_cons rfl (sub_cons rfl (sub_cons rfl (sub_cons rfl sub_nil))))) (sub_cons rfl (sub_cons rfl (sub_cons rfl (sub_cons rfl sub_nil)))) (by exact subH_nil) (subH_same rfl (subH_same rfl (subH_same rfl subH_nil)))))
                    · try dsimp only
                      first
                        | exact ⟨by omega, i + 1, i + 1, f, t, rfl, rfl, rfl, rfl, Nat.le_refl _, rfl, by omega, least_unknown hL hg hc38 hs.1, fun b hb => (unknown_next hg hc38 f t ok b hb).imp id (fun h => ⟨h.1, by omega⟩), hft, by omega⟩
                        | (have hN : pS xs (i + 1) - pS xs m2 < sum := by
                             first
                               | omega
                               | (have : m2 = i + 1 := by omega
                                  subst this; omega)
                           exact ⟨by omega, i + 1, m2, f2, t2, rfl, rfl, rfl, rfl, hm2, hu2, hN, half_end hL2 hm2 hN, hB2, hft2, hti2⟩)
                    · try dsimp only
                      omega
                  · refine wp_skip' (to_k0 (fun _ _ h => h) (hK25 _ _ ?_))
                    clear hK25
                    refine wp_seq' fun K27 hK27 => ?_
                    refine wp_seq' fun K28 hK28 => ?_
                    refine wp_reg ?_
                    refine ol_r (r_move rfl) rfl ?_
                    refine ol_r (r_not rfl) rfl ?_
                    refine ol_r (r_move rfl) rfl ?_
                    refine ol_split (d := 55) rfl (fun hs55 => ?_) (fun hs55 => ?_)
                    · have phs55 := hs55; try simp only [decide_eq_true_eq, decide_eq_false_iff_not, Bool.not_eq_true', Bool.not_eq_false', Bool.not_true, Bool.not_false] at phs55
                      refine ol_s rfl rfl hs55 rfl ?_
                      refine ol_s rfl rfl hs55 rfl ?_
                      refine ol_s rfl rfl hs55 rfl ?_
                      refine ol_s rfl rfl hs55 rfl ?_
                      refine ol_s rfl rfl hs55 rfl ?_
                      refine ol_s rfl rfl hs55 rfl ?_
                      refine ol_s rfl rfl hs55 rfl ?_
                      refine ol_r (r_pickT rfl hs55 rfl) rfl ?_
                      refine ol_nil (to_k0 (fun _ _ h => h) (hK28 _ _ ?_))
                      clear hK28
                      refine wp_condT rfl ?_
                      refine wp_reg ?_
                      refine ol_r (r_move rfl) rfl ?_
                      refine ol_r (r_move rfl) rfl ?_
                      refine ol_r (r_assign rfl) rfl ?_
                      refine ol_r (r_assign rfl) rfl ?_
                      refine ol_r (r_assign rfl) rfl ?_
                      refine ol_nil (to_k0 (fun _ _ h => h) (hK27 _ _ ?_))
                      clear hK27
                      refine wp_reg ?_
                      refine ol_r (r_move rfl) rfl ?_
                      refine ol_r (r_add rfl rfl (by omega)) rfl ?_
                      refine ol_r (r_assign rfl) rfl ?_
                      refine ol_nil (to_k0 (fun _ _ h => h) (hK21 ((m2 + 1, _, _, _)) _ _ ?_ ?_ (sub_cons rfl (sub_cons rfl (sub_cons rfl (sub_cons rfl sub_nil)))) (sub_cons rfl (sub_cons rfl (sub_cons rfl (sub_cons rfl (sub_cons rfl sub_nil))))) (by exact subH_nil) (subH_same rfl (subH_same rfl (subH_same rfl subH_nil)))))
                      · try dsimp only
                        have r3 := pU_mono (xs := xs) (show m2 + 1 ≤ i + 1 by omega)
                        have r4 := pU_mono (xs := xs) (show m2 ≤ m2 + 1 by omega)
                        first
                          | (obtain ⟨g1, g2⟩ := half_take hL2 hm2 hu2 (by omega) (by first | exact .inl phs55 | (right; omega))
                             exact ⟨by omega, m2, i + 1, rfl, rfl, by omega, g1, g2, by omega, by omega⟩)
                          | (obtain ⟨g1, g2⟩ := half_keep hL2 hB2 phs55 (by omega)
                             exact ⟨by omega, f2, t2, rfl, rfl, by omega, g1, g2, hft2, hti2⟩)
                      · try dsimp only
                        omega
                    · have phs55 := hs55; try simp only [decide_eq_true_eq, decide_eq_false_iff_not, Bool.not_eq_true', Bool.not_eq_false', Bool.not_true, Bool.not_false] at phs55
                      refine ol_g rfl rfl hs55 ?_
                      refine ol_r (r_move rfl) rfl ?_
                      refine ol_g rfl rfl hs55 ?_
                      refine ol_r (r_move rfl) rfl ?_
                      refine ol_g rfl rfl hs55 ?_
                      refine ol_r (r_sub rfl rfl (by omega)) rfl ?_
                      refine ol_g rfl rfl hs55 ?_
                      refine ol_r (r_move rfl) rfl ?_
                      refine ol_g rfl rfl hs55 ?_
                      refine ol_r (r_move rfl) rfl ?_
                      refine ol_g rfl rfl hs55 ?_
                      refine ol_r (r_sub rfl rfl (by omega)) rfl ?_
                      refine ol_g rfl rfl hs55 ?_
                      refine ol_r (r_lss rfl rfl) rfl ?_
                      refine ol_r (r_pickF rfl hs55 rfl) rfl ?_
                      refine ol_nil (to_k0 (fun _ _ h => h) (hK28 _ _ ?_))
                      clear hK28
                      first | refine wp_condD rfl (fun hc63 => ?_) (fun hc63 => ?_) | refine wp_condN rfl (fun hc63 => ?_) (fun hc63 => ?_) | refine wp_condNB rfl (fun hc63 => ?_) (fun hc63 => ?_) | refine wp_cond' rfl (fun hc63 => ?_) (fun hc63 => ?_)
                      · refine wp_reg ?_
                        refine ol_r (r_move rfl) rfl ?_
                        refine ol_r (r_move rfl) rfl ?_
                        refine ol_r (r_assign rfl) rfl ?_
                        refine ol_r (r_assign rfl) rfl ?_
                        refine ol_r (r_assign rfl) rfl ?_
                        refine ol_nil (to_k0 (fun _ _ h => h) (hK27 _ _ ?_))
                        clear hK27
                        refine wp_reg ?_
                        refine ol_r (r_move rfl) rfl ?_
                        refine ol_r (r_add rfl rfl (by omega)) rfl ?_
                        refine ol_r (r_assign rfl) rfl ?_
                        refine ol_nil (to_k0 (fun _ _ h => h) (hK21 ((m2 + 1, _, _, _)) _ _ ?_ ?_ (sub_cons rfl (sub_cons rfl (sub_cons rfl (sub_cons rfl sub_nil)))) (sub_cons rfl (sub_cons rfl (sub_cons rfl (sub_cons rfl (sub_cons rfl sub_nil))))) (by exact subH_nil) (subH_same rfl (subH_same rfl (subH_same rfl subH_nil)))))
                        · try dsimp only
                          have r3 := pU_mono (xs := xs) (show m2 + 1 ≤ i + 1 by omega)
                          have r4 := pU_mono (xs := xs) (show m2 ≤ m2 + 1 by omega)
                          first
                            | (obtain ⟨g1, g2⟩ := half_take hL2 hm2 hu2 (by omega) (by first | exact .inl phs55 | (right; omega))
                               exact ⟨by omega, m2, i + 1, rfl, rfl, by omega, g1, g2, by omega, by omega⟩)
                            | (obtain ⟨g1, g2⟩ := half_keep hL2 hB2 phs55 (by omega)
                               exact ⟨by omega, f2, t2, rfl, rfl, by omega, g1, g2, hft2, hti2⟩)
                        · try dsimp only
                          omega
                      · refine wp_skip' (to_k0 (fun _ _ h => h) (hK27 _ _ ?_))
                        clear hK27
                        refine wp_reg ?_
                        refine ol_r (r_move rfl) rfl ?_
                        refine ol_r (r_add rfl rfl (by omega)) rfl ?_
                        refine ol_r (r_assign rfl) rfl ?_
                        refine ol_nil (to_k0 (fun _ _ h => h) (hK21 ((m2 + 1, _, _, _)) _ _ ?_ ?_ (sub_cons rfl (sub_cons rfl (sub_cons rfl (sub_cons rfl sub_nil)))) (sub_cons rfl (sub_cons rfl (sub_cons rfl (sub_cons rfl (sub_cons rfl sub_nil))))) (by exact subH_nil) (subH_same rfl (subH_same rfl (subH_same rfl subH_nil)))))
                        · try dsimp only
                          have r3 := pU_mono (xs := xs) (show m2 + 1 ≤ i + 1 by omega)
                          have r4 := pU_mono (xs := xs) (show m2 ≤ m2 + 1 by omega)
                          first
                            | (obtain ⟨g1, g2⟩ := half_take hL2 hm2 hu2 (by omega) (by first | exact .inl phs55 | (right; omega))
                               exact ⟨by omega, m2, i + 1, rfl, rfl, by omega, g1, g2, by omega, by omega⟩)
                            | (obtain ⟨g1, g2⟩ := half_keep hL2 hB2 phs55 (by omega)
                               exact ⟨by omega, f2, t2, rfl, rfl, by omega, g1, g2, hft2, hti2⟩)
                        · try dsimp only
                          omega
                · refine wp_exit' (to_k0 (fun _ _ h => h) (hK17 _ _ ?_))
                  clear hK17
                  refine wp_reg ?_
                  refine ol_r (r_move rfl) rfl ?_
                  refine ol_r (r_add rfl rfl (by omega)) rfl ?_
                  refine ol_r (r_assign rfl) rfl ?_
                  refine ol_nil (to_k0 (fun _ _ h => h) (hK14 ((i + 1 + 1, _, _, _, _)) _ _ ?_ ?_ (sub_cons rfl (sub_cons rfl (sub_cons rfl (sub_cons rfl (sub_cons rfl sub_nil))))) (sub_cons rfl (sub_cons rfl (sub_cons rfl (sub_cons rfl sub_nil)))) (by exact subH_nil) (subH_same rfl (subH_same rfl (subH_same rfl subH_nil)))))
                  · try dsimp only
                    first
                      | exact ⟨by omega, i + 1, i + 1, f, t, rfl, rfl, rfl, rfl, Nat.le_refl _, rfl, by omega, least_unknown hL hg hc38 hs.1, fun b hb => (unknown_next hg hc38 f t ok b hb).imp id (fun h => ⟨h.1, by omega⟩), hft, by omega⟩
                      | (have hN : pS xs (i + 1) - pS xs m2 < sum := by
                           first
                             | omega
                             | (have : m2 = i + 1 := by omega
                                subst this; omega)
                         exact ⟨by omega, i + 1, m2, f2, t2, rfl, rfl, rfl, rfl, hm2, hu2, hN, half_end hL2 hm2 hN, hB2, hft2, hti2⟩)
                  · try dsimp only
                    omega
          · refine wp_exit' (to_k0 (fun _ _ h => h) (hK12 _ _ ?_))
            clear hK12
            refine wp_seq' fun K29 hK29 => ?_
            refine wp_reg ?_
            refine ol_r (r_move rfl) rfl ?_
            refine ol_r (r_move rfl) rfl ?_
            refine ol_r (r_move rfl) rfl ?_
            refine ol_r (r_assign rfl) rfl ?_
            refine ol_r (r_assign rfl) rfl ?_
            refine ol_r (r_assign rfl) rfl ?_
            refine ol_r (r_assign rfl) rfl ?_
            refine ol_nil (to_k0 (fun _ _ h => h) (hK29 _ _ ?_))
            clear hK29
            refine hQ.ret (rvs4 (rv_t rfl) (rv_t rfl) (rv_t rfl) (rv_t rfl)) (fun _ _ h => h) fun w hb hs hB => ?_
            first
              | exact ⟨0, 0, false, _, by unfold LeastR; rw [if_pos hc17]; exact ⟨rfl, rfl, rfl, rfl⟩, rfl, hb⟩
              | exact ⟨0, 0, false, _, by unfold LeastR; rw [if_neg hc17, if_neg (by rw [inB_iff]; omega)]; exact ⟨rfl, rfl, rfl, rfl⟩, rfl, hb⟩
              | (have hin' : i = xs.length := by omega
                 subst hin'
                 exact ⟨f, t, ok, 0, by unfold LeastR; rw [if_neg hc17, if_pos (inB_iff.2 (by omega))]; exact ⟨hL, rfl⟩, rfl, hb⟩)
theorem law_best (a : Option Addr) (n cap : Nat) (xs : List Int) (size sum : Int) (w : World) (hl : Rd encI w.heap.size w a n cap xs) :
    Calls Try.prog 4 #[.slice a n cap, .int .i64 size, .int .i64 sum] w fun e w' => e = .returned (.bool true) ∧ Below w.heap.size w w' := by
  refine enterQ (N := 85) (H := []) (B := w.heap.size) (args := [_, _, _]) Try.func4 rfl rfl rfl (Nat.le_refl _) (Sat.nil _ _) fun Q hQ => ?_
  refine wp_seq' fun K1 hK1 => ?_
  refine wp_reg ?_
  refine ol_r (r_assign rfl) rfl ?_
  refine ol_nil (to_k0 (fun _ _ h => h) (hK1 _ _ ?_))
  clear hK1
  refine wp_seq' fun K2 hK2 => ?_
  refine wp_reg ?_
  refine ol_r (r_move rfl) rfl ?_
  refine ol_r (r_move rfl) rfl ?_
  refine ol_call rfl rfl cb14 rfl (fun w1 hb1 hs1 hB1 => Calls.mono (effort_Best _ _ _ xs _ _ (hl.at hb1 hB1)) ?_)
  rintro e w2 ⟨rfl, hb2⟩
  refine After.below rfl hb1 hs1 hB1 hb2 ?_
  clear hb2 hB1 hs1 hb1 w2 w1
  refine ol_r (r_move rfl) rfl ?_
  refine ol_r (r_extract rfl rfl) rfl ?_
  refine ol_r (r_extract rfl rfl) rfl ?_
  refine ol_alloc 7 z24 rfl fun b7 => ?_
  refine ol_store (id := 7) rfl rfl rfl rfl sz24 rfl rfl (by first | decide | exact Nat.zero_lt_succ _ | simp) ?_
  refine ol_r (r_assign rfl) rfl ?_
  refine ol_nil (to_k0 (fun _ _ h => h) (hK2 _ _ ?_))
  clear hK2
  refine wp_seq' fun K3 hK3 => ?_
  refine wp_reg ?_
  refine ol_r (r_move rfl) rfl ?_
  refine ol_r (r_move rfl) rfl ?_
  refine ol_call rfl rfl cb15 rfl (fun w1 hb1 hs1 hB1 => Calls.mono (ref_Best _ _ _ xs _ _ (hl.at hb1 hB1)) ?_)
  rintro e w2 ⟨rfl, hb2⟩
  refine After.below rfl hb1 hs1 hB1 hb2 ?_
  clear hb2 hB1 hs1 hb1 w2 w1
  refine ol_r (r_move rfl) rfl ?_
  refine ol_r (r_extract rfl rfl) rfl ?_
  refine ol_r (r_extract rfl rfl) rfl ?_
  refine ol_alloc 9 z24 rfl fun b9 => ?_
  refine ol_store (id := 9) rfl rfl rfl rfl sz24 rfl rfl (by first | decide | exact Nat.zero_lt_succ _ | simp) ?_
  refine ol_r (r_assign rfl) rfl ?_
  refine ol_nil (to_k0 (fun _ _ h => h) (hK3 _ _ ?_))
  clear hK3
  refine wp_seq' fun K4 hK4 => ?_
  refine wp_reg ?_
  refine ol_r (r_move rfl) rfl ?_
  refine ol_r (r_move rfl) rfl ?_
  refine ol_call rfl rfl cb18 rfl (fun w1 hb1 hs1 hB1 => ?_)
  refine Calls.mono (effort_Least _ _ _ xs _ _ (hl.at hb1 hB1)) ?_
  rintro e w2 ⟨f, t, ok, c, hR, rfl, hb2⟩
  refine After.below rfl hb1 hs1 hB1 hb2 ?_
  clear hb2 hB1 hs1 hb1 w2 w1
  refine ol_r (r_move rfl) rfl ?_
  refine ol_r (r_extract rfl rfl) rfl ?_
  refine ol_r (r_extract rfl rfl) rfl ?_
  refine ol_r (r_extract rfl rfl) rfl ?_
  refine ol_r (r_extract rfl rfl) rfl ?_
  refine ol_r (r_assign rfl) rfl ?_
  refine ol_r (r_assign rfl) rfl ?_
  refine ol_r (r_assign rfl) rfl ?_
  refine ol_r (r_assign rfl) rfl ?_
  refine ol_nil (to_k0 (fun _ _ h => h) (hK4 _ _ ?_))
  clear hK4
  refine wp_seq' fun K5 hK5 => ?_
  refine wp_reg ?_
  refine ol_r (r_move rfl) rfl ?_
  refine ol_r (r_move rfl) rfl ?_
  refine ol_call rfl rfl cb19 rfl (fun w1 hb1 hs1 hB1 => ?_)
  refine Calls.mono (ref_Least _ _ _ xs _ _ (hl.at hb1 hB1)) ?_
  rintro e w2 ⟨f', t', ok', c', hR', rfl, hb2⟩
  obtain ⟨rfl, rfl, rfl, rfl⟩ := hR.unique hR'
  refine After.below rfl hb1 hs1 hB1 hb2 ?_
  clear hb2 hB1 hs1 hb1 w2 w1
  refine ol_r (r_move rfl) rfl ?_
  refine ol_r (r_extract rfl rfl) rfl ?_
  refine ol_r (r_extract rfl rfl) rfl ?_
  refine ol_r (r_extract rfl rfl) rfl ?_
  refine ol_r (r_extract rfl rfl) rfl ?_
  refine ol_r (r_assign rfl) rfl ?_
  refine ol_r (r_assign rfl) rfl ?_
  refine ol_r (r_assign rfl) rfl ?_
  refine ol_r (r_assign rfl) rfl ?_
  refine ol_nil (to_k0 (fun _ _ h => h) (hK5 _ _ ?_))
  clear hK5
  refine wp_seq' fun K6 hK6 => ?_
  refine wp_reg ?_
  refine ol_r (r_move rfl) rfl ?_
  refine ol_call rfl rfl cb20 rfl (fun w1 hb1 hs1 hB1 => Calls.mono (effort_CheckStream _ _ _ xs _ (hl.at hb1 hB1)) ?_)
  rintro e w2 ⟨rfl, hb2⟩
  refine After.below rfl hb1 hs1 hB1 hb2 ?_
  clear hb2 hB1 hs1 hb1 w2 w1
  refine ol_r (r_move rfl) rfl ?_
  refine ol_call rfl rfl cb21 rfl (fun w1 hb1 hs1 hB1 => Calls.mono (ref_CheckStream _ _ _ xs _ (hl.at hb1 hB1)) ?_)
  rintro e w2 ⟨rfl, hb2⟩
  refine After.below rfl hb1 hs1 hB1 hb2 ?_
  clear hb2 hB1 hs1 hb1 w2 w1
  refine ol_r (r_eql rfl rfl) rfl ?_
  refine ol_r (r_move rfl) rfl ?_
  refine ol_split (d := 52) rfl (fun hs52 => ?_) (fun hs52 => ?_)
  · have phs52 := hs52; try simp only [decide_eq_true_eq, decide_eq_false_iff_not, Bool.not_eq_true', Bool.not_eq_false', Bool.not_true, Bool.not_false] at phs52
    refine ol_g rfl rfl hs52 ?_
    refine ol_r (r_lda (id := 7) (n := 4) rfl rfl rfl ag24) rfl ?_
    refine ol_g rfl rfl hs52 ?_
    refine ol_r (r_lda (id := 9) (n := 4) rfl rfl rfl ag24) rfl ?_
    refine ol_g rfl rfl hs52 ?_
    refine ol_r (r_eqs rfl rfl (by kernel_rfl) (fun w => run_eqs (by kernel_rfl) (by kernel_rfl) w)) rfl ?_
    refine ol_r (r_pickT rfl hs52 rfl) rfl ?_
    refine ol_r (r_move rfl) rfl ?_
    refine ol_split (d := 57) rfl (fun hs57 => ?_) (fun hs57 => ?_)
    · have phs57 := hs57; try simp only [decide_eq_true_eq, decide_eq_false_iff_not, Bool.not_eq_true', Bool.not_eq_false', Bool.not_true, Bool.not_false] at phs57
      refine ol_g rfl rfl hs57 ?_
      refine ol_r (r_move rfl) rfl ?_
      refine ol_g rfl rfl hs57 ?_
      refine ol_r (r_move rfl) rfl ?_
      refine ol_g rfl rfl hs57 ?_
      refine ol_r (r_eql rfl rfl) rfl ?_
      refine ol_r (r_pickT rfl hs57 rfl) rfl ?_
      refine ol_r (r_move rfl) rfl ?_
      refine ol_split (d := 62) rfl (fun hs62 => ?_) (fun hs62 => ?_)
      · have phs62 := hs62; try simp only [decide_eq_true_eq, decide_eq_false_iff_not, Bool.not_eq_true', Bool.not_eq_false', Bool.not_true, Bool.not_false] at phs62
        refine ol_g rfl rfl hs62 ?_
        refine ol_r (r_move rfl) rfl ?_
        refine ol_g rfl rfl hs62 ?_
        refine ol_r (r_move rfl) rfl ?_
        refine ol_g rfl rfl hs62 ?_
        refine ol_r (r_eql rfl rfl) rfl ?_
        refine ol_r (r_pickT rfl hs62 rfl) rfl ?_
        refine ol_r (r_move rfl) rfl ?_
        refine ol_split (d := 67) rfl (fun hs67 => ?_) (fun hs67 => ?_)
        · have phs67 := hs67; try simp only [decide_eq_true_eq, decide_eq_false_iff_not, Bool.not_eq_true', Bool.not_eq_false', Bool.not_true, Bool.not_false] at phs67
          refine ol_g rfl rfl hs67 ?_
          refine ol_r (r_move rfl) rfl ?_
          refine ol_g rfl rfl hs67 ?_
          refine ol_r (r_move rfl) rfl ?_
          refine ol_g rfl rfl hs67 ?_
          refine ol_r (r_eql rfl rfl) rfl ?_
          refine ol_r (r_pickT rfl hs67 rfl) rfl ?_
          refine ol_r (r_move rfl) rfl ?_
          refine ol_split (d := 72) rfl (fun hs72 => ?_) (fun hs72 => ?_)
          · have phs72 := hs72; try simp only [decide_eq_true_eq, decide_eq_false_iff_not, Bool.not_eq_true', Bool.not_eq_false', Bool.not_true, Bool.not_false] at phs72
            refine ol_g rfl rfl hs72 ?_
            refine ol_r (r_move rfl) rfl ?_
            refine ol_g rfl rfl hs72 ?_
            refine ol_r (r_move rfl) rfl ?_
            refine ol_g rfl rfl hs72 ?_
            refine ol_r (r_beql rfl rfl (by kernel_rfl)) rfl ?_
            refine ol_r (r_pickT rfl hs72 rfl) rfl ?_
            refine ol_r (r_move rfl) rfl ?_
            refine ol_split (d := 77) rfl (fun hs77 => ?_) (fun hs77 => ?_)
            · have phs77 := hs77; try simp only [decide_eq_true_eq, decide_eq_false_iff_not, Bool.not_eq_true', Bool.not_eq_false', Bool.not_true, Bool.not_false] at phs77
              refine ol_g rfl rfl hs77 ?_
              refine ol_r (r_move rfl) rfl ?_
              refine ol_g rfl rfl hs77 ?_
              refine ol_r (r_move rfl) rfl ?_
              refine ol_g rfl rfl hs77 ?_
              refine ol_r (r_eql rfl rfl) rfl ?_
              refine ol_r (r_pickT rfl hs77 rfl) rfl ?_
              refine ol_r (r_move rfl) rfl ?_
              refine ol_split (d := 82) rfl (fun hs82 => ?_) (fun hs82 => ?_)
              · have phs82 := hs82; try simp only [decide_eq_true_eq, decide_eq_false_iff_not, Bool.not_eq_true', Bool.not_eq_false', Bool.not_true, Bool.not_false] at phs82
                refine ol_g rfl rfl hs82 ?_
                refine ol_call rfl rfl cb16 rfl (fun w1 hb1 hs1 hB1 => Calls.mono (effort_told _) ?_)
                rintro e w2 ⟨rfl, hb2⟩
                refine After.below rfl hb1 hs1 hB1 hb2 ?_
                clear hb2 hB1 hs1 hb1 w2 w1
                refine ol_r (r_pickT rfl hs82 rfl) rfl ?_
                refine ol_r (r_assign rfl) rfl ?_
                refine ol_nil (to_k0 (fun _ _ h => h) (hK6 _ _ ?_))
                clear hK6
                refine hQ.ret (rvs1 (rv_t rfl)) (fun _ _ h => h) fun w hb hs hB => ?_
                first
                  | exact ⟨rfl, hb⟩
                  | (exfalso; simp_all; done)
                  | (exfalso; simp_all [eqs, eqV]; done)
              · have phs82 := hs82; try simp only [decide_eq_true_eq, decide_eq_false_iff_not, Bool.not_eq_true', Bool.not_eq_false', Bool.not_true, Bool.not_false] at phs82
                refine ol_s rfl rfl hs82 rfl ?_
                refine ol_r (r_pickF rfl hs82 rfl) rfl ?_
                refine ol_r (r_assign rfl) rfl ?_
                refine ol_nil (to_k0 (fun _ _ h => h) (hK6 _ _ ?_))
                clear hK6
                refine hQ.ret (rvs1 (rv_t rfl)) (fun _ _ h => h) fun w hb hs hB => ?_
                first
                  | exact ⟨rfl, hb⟩
                  | (exfalso; simp_all; done)
                  | (exfalso; simp_all [eqs, eqV]; done)
            · have phs77 := hs77; try simp only [decide_eq_true_eq, decide_eq_false_iff_not, Bool.not_eq_true', Bool.not_eq_false', Bool.not_true, Bool.not_false] at phs77
              refine ol_s rfl rfl hs77 rfl ?_
              refine ol_s rfl rfl hs77 rfl ?_
              refine ol_s rfl rfl hs77 rfl ?_
              refine ol_r (r_pickF rfl hs77 rfl) rfl ?_
              refine ol_r (r_move rfl) rfl ?_
              refine ol_s rfl rfl rfl rfl ?_
              refine ol_r (r_pickF rfl rfl rfl) rfl ?_
              refine ol_r (r_assign rfl) rfl ?_
              refine ol_nil (to_k0 (fun _ _ h => h) (hK6 _ _ ?_))
              clear hK6
              refine hQ.ret (rvs1 (rv_t rfl)) (fun _ _ h => h) fun w hb hs hB => ?_
              first
                | exact ⟨rfl, hb⟩
                | (exfalso; simp_all; done)
                | (exfalso; simp_all [eqs, eqV]; done)
          · have phs72 := hs72; try simp only [decide_eq_true_eq, decide_eq_false_iff_not, Bool.not_eq_true', Bool.not_eq_false', Bool.not_true, Bool.not_false] at phs72
            refine ol_s rfl rfl hs72 rfl ?_
            refine ol_s rfl rfl hs72 rfl ?_
            refine ol_s rfl rfl hs72 rfl ?_
            refine ol_r (r_pickF rfl hs72 rfl) rfl ?_
            refine ol_r (r_move rfl) rfl ?_
            refine ol_s rfl rfl rfl rfl ?_
            refine ol_s rfl rfl rfl rfl ?_
            refine ol_s rfl rfl rfl rfl ?_
            refine ol_r (r_pickF rfl rfl rfl) rfl ?_
            refine ol_r (r_move rfl) rfl ?_
            refine ol_s rfl rfl rfl rfl ?_
            refine ol_r (r_pickF rfl rfl rfl) rfl ?_
            refine ol_r (r_assign rfl) rfl ?_
            refine ol_nil (to_k0 (fun _ _ h => h) (hK6 _ _ ?_))
            clear hK6
            refine hQ.ret (rvs1 (rv_t rfl)) (fun _ _ h => h) fun w hb hs hB => ?_
            first
              | exact ⟨rfl, hb⟩
              | (exfalso; simp_all; done)
              | (exfalso; simp_all [eqs, eqV]; done)
        · have phs67 := hs67; try simp only [decide_eq_true_eq, decide_eq_false_iff_not, Bool.not_eq_true', Bool.not_eq_false', Bool.not_true, Bool.not_false] at phs67
          refine ol_s rfl rfl hs67 rfl ?_
          refine ol_s rfl rfl hs67 rfl ?_
          refine ol_s rfl rfl hs67 rfl ?_
          refine ol_r (r_pickF rfl hs67 rfl) rfl ?_
          refine ol_r (r_move rfl) rfl ?_
          refine ol_s rfl rfl rfl rfl ?_
          refine ol_s rfl rfl rfl rfl ?_
          refine ol_s rfl rfl rfl rfl ?_
          refine ol_r (r_pickF rfl rfl rfl) rfl ?_
          refine ol_r (r_move rfl) rfl ?_
          refine ol_s rfl rfl rfl rfl ?_
          refine ol_s rfl rfl rfl rfl ?_
          refine ol_s rfl rfl rfl rfl ?_
          refine ol_r (r_pickF rfl rfl rfl) rfl ?_
          refine ol_r (r_move rfl) rfl ?_
          refine ol_s rfl rfl rfl rfl ?_
          refine ol_r (r_pickF rfl rfl rfl) rfl ?_
          refine ol_r (r_assign rfl) rfl ?_
          refine ol_nil (to_k0 (fun _ _ h => h) (hK6 _ _ ?_))
          clear hK6
          refine hQ.ret (rvs1 (rv_t rfl)) (fun _ _ h => h) fun w hb hs hB => ?_
          first
            | exact ⟨rfl, hb⟩
            | (exfalso; simp_all; done)
            | (exfalso; simp_all [eqs, eqV]; done)
      · have phs62 := hs62; try simp only [decide_eq_true_eq, decide_eq_false_iff_not, Bool.not_eq_true', Bool.not_eq_false', Bool.not_true, Bool.not_false] at phs62
        refine ol_s rfl rfl hs62 rfl ?_
        refine ol_s rfl rfl hs62 rfl ?_
        refine ol_s rfl rfl hs62 rfl ?_
        refine ol_r (r_pickF rfl hs62 rfl) rfl ?_
        refine ol_r (r_move rfl) rfl ?_
        refine ol_s rfl rfl rfl rfl ?_
        refine ol_s rfl rfl rfl rfl ?_
        refine ol_s rfl rfl rfl rfl ?_
        refine ol_r (r_pickF rfl rfl rfl) rfl ?_
        refine ol_r (r_move rfl) rfl ?_
        refine ol_s rfl rfl rfl rfl ?_
        refine ol_s rfl rfl rfl rfl ?_
        refine ol_s rfl rfl rfl rfl ?_
        refine ol_r (r_pickF rfl rfl rfl) rfl ?_
        refine ol_r (r_move rfl) rfl ?_
        refine ol_s rfl rfl rfl rfl ?_
        refine ol_s rfl rfl rfl rfl ?_
        refine ol_s rfl rfl rfl rfl ?_
        refine ol_r (r_pickF rfl rfl rfl) rfl ?_
        refine ol_r (r_move rfl) rfl ?_
        refine ol_s rfl rfl rfl rfl ?_
        refine ol_r (r_pickF rfl rfl rfl) rfl ?_
        refine ol_r (r_assign rfl) rfl ?_
        refine ol_nil (to_k0 (fun _ _ h => h) (hK6 _ _ ?_))
        clear hK6
        refine hQ.ret (rvs1 (rv_t rfl)) (fun _ _ h => h) fun w hb hs hB => ?_
        first
          | exact ⟨rfl, hb⟩
          | (exfalso; simp_all; done)
          | (exfalso; simp_all [eqs, eqV]; done)
    · have phs57 := hs57; try simp only [decide_eq_true_eq, decide_eq_false_iff_not, Bool.not_eq_true', Bool.not_eq_false', Bool.not_true, Bool.not_false] at phs57
      refine ol_s rfl rfl hs57 rfl ?_
      refine ol_s rfl rfl hs57 rfl ?_
      refine ol_s rfl rfl hs57 rfl ?_
      refine ol_r (r_pickF rfl hs57 rfl) rfl ?_
      refine ol_r (r_move rfl) rfl ?_
      refine ol_s rfl rfl rfl rfl ?_
      refine ol_s rfl rfl rfl rfl ?_
      refine ol_s rfl rfl rfl rfl ?_
      refine ol_r (r_pickF rfl rfl rfl) rfl ?_
      refine ol_r (r_move rfl) rfl ?_
      refine ol_s rfl rfl rfl rfl ?_
      refine ol_s rfl rfl rfl rfl ?_
      refine ol_s rfl rfl rfl rfl ?_
      refine ol_r (r_pickF rfl rfl rfl) rfl ?_
      refine ol_r (r_move rfl) rfl ?_
      refine ol_s rfl rfl rfl rfl ?_
      refine ol_s rfl rfl rfl rfl ?_
      refine ol_s rfl rfl rfl rfl ?_
      refine ol_r (r_pickF rfl rfl rfl) rfl ?_
      refine ol_r (r_move rfl) rfl ?_
      refine ol_s rfl rfl rfl rfl ?_
      refine ol_s rfl rfl rfl rfl ?_
      refine ol_s rfl rfl rfl rfl ?_
      refine ol_r (r_pickF rfl rfl rfl) rfl ?_
      refine ol_r (r_move rfl) rfl ?_
      refine ol_s rfl rfl rfl rfl ?_
      refine ol_r (r_pickF rfl rfl rfl) rfl ?_
      refine ol_r (r_assign rfl) rfl ?_
      refine ol_nil (to_k0 (fun _ _ h => h) (hK6 _ _ ?_))
      clear hK6
      refine hQ.ret (rvs1 (rv_t rfl)) (fun _ _ h => h) fun w hb hs hB => ?_
      first
        | exact ⟨rfl, hb⟩
        | (exfalso; simp_all; done)
        | (exfalso; simp_all [eqs, eqV]; done)
  · have phs52 := hs52; try simp only [decide_eq_true_eq, decide_eq_false_iff_not, Bool.not_eq_true', Bool.not_eq_false', Bool.not_true, Bool.not_false] at phs52
    refine ol_s rfl rfl hs52 rfl ?_
    refine ol_s rfl rfl hs52 rfl ?_
    refine ol_s rfl rfl hs52 rfl ?_
    refine ol_r (r_pickF rfl hs52 rfl) rfl ?_
    refine ol_r (r_move rfl) rfl ?_
    refine ol_s rfl rfl rfl rfl ?_
    refine ol_s rfl rfl rfl rfl ?_
    refine ol_s rfl rfl rfl rfl ?_
    refine ol_r (r_pickF rfl rfl rfl) rfl ?_
    refine ol_r (r_move rfl) rfl ?_
    refine ol_s rfl rfl rfl rfl ?_
    refine ol_s rfl rfl rfl rfl ?_
    refine ol_s rfl rfl rfl rfl ?_
    refine ol_r (r_pickF rfl rfl rfl) rfl ?_
    refine ol_r (r_move rfl) rfl ?_
    refine ol_s rfl rfl rfl rfl ?_
    refine ol_s rfl rfl rfl rfl ?_
    refine ol_s rfl rfl rfl rfl ?_
    refine ol_r (r_pickF rfl rfl rfl) rfl ?_
    refine ol_r (r_move rfl) rfl ?_
    refine ol_s rfl rfl rfl rfl ?_
    refine ol_s rfl rfl rfl rfl ?_
    refine ol_s rfl rfl rfl rfl ?_
    refine ol_r (r_pickF rfl rfl rfl) rfl ?_
    refine ol_r (r_move rfl) rfl ?_
    refine ol_s rfl rfl rfl rfl ?_
    refine ol_s rfl rfl rfl rfl ?_
    refine ol_s rfl rfl rfl rfl ?_
    refine ol_r (r_pickF rfl rfl rfl) rfl ?_
    refine ol_r (r_move rfl) rfl ?_
    refine ol_s rfl rfl rfl rfl ?_
    refine ol_r (r_pickF rfl rfl rfl) rfl ?_
    refine ol_r (r_assign rfl) rfl ?_
    refine ol_nil (to_k0 (fun _ _ h => h) (hK6 _ _ ?_))
    clear hK6
    refine hQ.ret (rvs1 (rv_t rfl)) (fun _ _ h => h) fun w hb hs hB => ?_
    first
      | exact ⟨rfl, hb⟩
      | (exfalso; simp_all; done)
      | (exfalso; simp_all [eqs, eqV]; done)
end Go.Proofs.Ytafkojlccknicaa
