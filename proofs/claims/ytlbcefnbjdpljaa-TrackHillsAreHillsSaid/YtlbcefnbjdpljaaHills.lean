/-
  Hills: program and reference.
-/
import Derived.Test.YtlbcefnbjdpljaaHillsM
import Derived.Test.YtlbcefnbjdpljaaHill
namespace Go.Proofs.Ytlbcefnbjdpljaa
open Go Go.RowKit Hx
set_option linter.unusedVariables false
set_option linter.unusedSimpArgs false
set_option maxRecDepth 8000
def encHill : Enc HillR := { size := 4, cells := fun x => [.int .i64 x.from_, .int .i64 x.to, .int .i64 x.rise, .int .i64 x.way], val := fun x => .agg #[.int .i64 x.from_, .int .i64 x.to, .int .i64 x.rise, .int .i64 x.way], len := fun _ => rfl, ones := fun _ u h => (by simp at h; rcases h with h | h | h | h <;> subst h <;> rfl), pos := by decide, vc := fun _ => rfl }
theorem ty49 : Ty Try.prog 49 encHill := .inr ⟨ag49, fun _ => rfl⟩
theorem equal_hill_same (a b : Option Addr) (n c1 c2 : Nat) (xs : List HillR) (w : World) (hx : Rd encHill w.heap.size w a n c1 xs) (hy : Rd encHill w.heap.size w b n c2 xs) :
    Calls Try.prog 22 #[.slice a n c1, .slice b n c2] w fun e w' => e = .returned (.bool true) ∧ Below w.heap.size w w' := by
  have hn := hx.len
  have hf := hx.fit
  refine enterQ (N := 26) (C := fun _ => True) (H := []) (B := w.heap.size) (args := [_, _]) Try.func22 rfl rfl rfl (Nat.le_refl _) (Sat.nil _ _) fun Q hQ => ?_
  refine wp_seq' fun K1 hK1 => ?_
  refine wp_reg ?_
  refine ol_r (r_assign rfl) rfl ?_
  refine ol_nil (to_k0 (fun _ _ h => h) (hK1 _ _ _ _ _ ?_))
  clear hK1
  refine wp_seq' fun K2 hK2 => ?_
  refine wp_seq' fun K3 hK3 => ?_
  refine wp_reg ?_
  refine ol_r (r_move rfl) rfl ?_
  refine ol_r (r_len rfl sl44) rfl ?_
  refine ol_r (r_move rfl) rfl ?_
  refine ol_r (r_len rfl sl44) rfl ?_
  refine ol_r (r_neq rfl rfl) rfl ?_
  refine ol_nil (to_k0 (fun _ _ h => h) (hK3 _ _ _ _ _ ?_))
  clear hK3
  first | refine wp_condD rfl (fun hc10 => ?_) (fun hc10 => ?_) | refine wp_condN rfl (fun hc10 => ?_) (fun hc10 => ?_) | refine wp_condNB rfl (fun hc10 => ?_) (fun hc10 => ?_) | refine wp_cond' rfl (fun hc10 => ?_) (fun hc10 => ?_)
  · refine wp_seq' fun K4 hK4 => ?_
    refine wp_reg ?_
    refine ol_r (r_assign rfl) rfl ?_
    refine ol_nil (to_k0 (fun _ _ h => h) (hK4 _ _ _ _ _ ?_))
    clear hK4
    refine hQ.ret (rvs1 (rv_t rfl)) (fun _ _ h => h) fun w hb hs hB hkd => ?_
    first
      | exact ⟨rfl, hb⟩
      | (exfalso; simp_all; done)
      | (exfalso; simp_all [eqs, eqV, encHill]; done)
  · refine wp_skip' (to_k0 (fun _ _ h => h) (hK2 _ _ _ _ _ ?_))
    clear hK2
    refine wp_seq' fun K5 hK5 => ?_
    refine wp_seq' fun K6 hK6 => ?_
    refine wp_reg ?_
    refine ol_r (r_move rfl) rfl ?_
    refine ol_r (r_len rfl sl44) rfl ?_
    refine ol_r (r_move rfl) rfl ?_
    refine ol_nil (to_k0 (fun _ _ h => h) (hK6 _ _ _ _ _ ?_))
    clear hK6
    refine wp_block' ?_
    apply wp_loopM (σ := Nat) (fun s => s ≤ n) (fun s => [(13, .int .i64 s)]) [(0, _), (1, _), (12, _)] (fun s => []) [] (fun s => n - s) (0)
    · try dsimp only
      simp
    · exact (sub_cons rfl sub_nil)
    · exact (sub_cons rfl (sub_cons rfl (sub_cons rfl sub_nil)))
    · exact subH_nil
    · exact subH_nil
    · intro k hk
      intro K7 hK7
      refine wp_seq' fun K8 hK8 => ?_
      refine wp_reg ?_
      refine ol_r (r_lss rfl rfl) rfl ?_
      refine ol_nil (to_k0 (fun _ _ h => h) (hK8 _ _ _ _ _ ?_))
      clear hK8
      refine wp_seq' fun K9 hK9 => ?_
      first | refine wp_condD rfl (fun hc14 => ?_) (fun hc14 => ?_) | refine wp_condN rfl (fun hc14 => ?_) (fun hc14 => ?_) | refine wp_condNB rfl (fun hc14 => ?_) (fun hc14 => ?_) | refine wp_cond' rfl (fun hc14 => ?_) (fun hc14 => ?_)
      · refine wp_skip' (to_k0 (fun _ _ h => h) (hK9 _ _ _ _ _ ?_))
        clear hK9
        refine wp_seq' fun K10 hK10 => ?_
        refine wp_block' ?_
        refine wp_seq' fun K11 hK11 => ?_
        refine wp_reg ?_
        refine ol_r (r_move rfl) rfl ?_
        refine ol_r (r_assign rfl) rfl ?_
        refine ol_nil (to_k0 (fun _ _ h => h) (hK11 _ _ _ _ _ ?_))
        clear hK11
        refine wp_seq' fun K12 hK12 => ?_
        refine wp_regq (by kernel_rfl) (by kernel_rfl) ?_
        refine ql_r (r_move rfl) rfl ?_
        refine ql_r (r_move rfl) rfl ?_
        refine ql_ixr hx rfl rfl sl44 (by omega) rfl fun x18 hx18 => ?_
        try simp only [Int.toNat_natCast] at hx18
        refine ql_r (r_ldw rfl (fun w1 hb1 hs1 hB1 => Rd.loads hx ty49 hx18 hb1)) rfl ?_
        refine ql_r (r_move rfl) rfl ?_
        refine ql_r (r_move rfl) rfl ?_
        refine ql_ixr hy rfl rfl sl44 (by omega) rfl fun x22 hx22 => ?_
        try simp only [Int.toNat_natCast] at hx22
        have h22 : x22 = x18 := by rw [hx18] at hx22; cases hx22; rfl
        subst h22
        refine ql_r (r_ldw rfl (fun w1 hb1 hs1 hB1 => Rd.loads hy ty49 hx22 hb1)) rfl ?_
        refine ql_r (r_nes rfl rfl (by kernel_rfl) (fun w => run_eqs (by kernel_rfl) (by kernel_rfl) w)) rfl ?_
        refine ql_nil (to_k0 (fun _ _ h => h) (hK12 _ _ _ _ _ ?_))
        clear hK12
        first | refine wp_condD rfl (fun hc24 => ?_) (fun hc24 => ?_) | refine wp_condN rfl (fun hc24 => ?_) (fun hc24 => ?_) | refine wp_condNB rfl (fun hc24 => ?_) (fun hc24 => ?_) | refine wp_cond' rfl (fun hc24 => ?_) (fun hc24 => ?_)
        · refine wp_seq' fun K13 hK13 => ?_
          refine wp_reg ?_
          refine ol_r (r_assign rfl) rfl ?_
          refine ol_nil (to_k0 (fun _ _ h => h) (hK13 _ _ _ _ _ ?_))
          clear hK13
          refine hQ.ret (rvs1 (rv_t rfl)) (fun _ _ h => h) fun w hb hs hB hkd => ?_
          first
            | exact ⟨rfl, hb⟩
            | (exfalso; simp_all; done)
            | (exfalso; simp_all [eqs, eqV, encHill]; done)
        · refine wp_skip' (to_k0 (fun _ _ h => h) (hK10 _ _ _ _ _ ?_))
          clear hK10
          refine wp_reg ?_
          refine ol_r (r_add rfl rfl (by omega)) rfl ?_
          refine ol_r (r_move rfl) rfl ?_
          refine ol_nil (to_k0 (fun _ _ h => h) (hK7 (k + 1) _ _ ?_ ?_ (sub_cons rfl sub_nil) (sub_cons rfl (sub_cons rfl (sub_cons rfl sub_nil))) (by exact subH_nil) subH_nil))
          · try dsimp only
            omega
          · try dsimp only
            omega
      · refine wp_exit' (to_k0 (fun _ _ h => h) (hK5 _ _ _ _ _ ?_))
        clear hK5
        refine wp_seq' fun K14 hK14 => ?_
        refine wp_reg ?_
        refine ol_r (r_assign rfl) rfl ?_
        refine ol_nil (to_k0 (fun _ _ h => h) (hK14 _ _ _ _ _ ?_))
        clear hK14
        refine hQ.ret (rvs1 (rv_t rfl)) (fun _ _ h => h) fun w hb hs hB hkd => ?_
        first
          | exact ⟨rfl, hb⟩
          | (exfalso; simp_all; done)
          | (exfalso; simp_all [eqs, eqV, encHill]; done)
theorem track_top (a : Option Addr) (n c : Nat) (ss : List SmpR) (f : Nat) (dip : Int) (w : World) (hl : Rd encSmp w.heap.size w a n c ss) (hf : f < ss.length) (hz : ∀ x ∈ ss, -100000 ≤ x.z ∧ x.z ≤ 100000) :
    Calls Try.prog 50 #[.slice a n c, .int .i64 f, .int .i64 dip] w fun e w' => e = .returned (.int .i64 (topR ss f dip)) ∧ Below w.heap.size w w' := by
  have hn := hl.len
  have hfit := hl.fit
  refine enterQ (N := 59) (C := fun _ => True) (H := []) (B := w.heap.size) (args := [_, _, _]) Try.func50 rfl rfl rfl (Nat.le_refl _) (Sat.nil _ _) fun Q hQ => ?_
  refine wp_seq' fun K1 hK1 => ?_
  refine wp_reg ?_
  refine ol_r (r_assign rfl) rfl ?_
  refine ol_nil (to_k0 (fun _ _ h => h) (hK1 _ _ _ _ _ ?_))
  clear hK1
  refine wp_seq' fun K2 hK2 => ?_
  refine wp_reg ?_
  refine ol_r (r_move rfl) rfl ?_
  refine ol_r (r_assign rfl) rfl ?_
  refine ol_nil (to_k0 (fun _ _ h => h) (hK2 _ _ _ _ _ ?_))
  clear hK2
  refine wp_seq' fun K3 hK3 => ?_
  refine wp_seq' fun K4 hK4 => ?_
  refine wp_reg ?_
  refine ol_r (r_move rfl) rfl ?_
  refine ol_r (r_add rfl rfl (by omega)) rfl ?_
  refine ol_r (r_assign rfl) rfl ?_
  refine ol_nil (to_k0 (fun _ _ h => h) (hK4 _ _ _ _ _ ?_))
  clear hK4
  refine wp_block' ?_
  apply wp_loopM (σ := Nat × Nat) (fun s => f < s.1 ∧ s.1 ≤ ss.length ∧ s.2 < s.1 ∧ (∃ m, ss.length ≤ m + s.1 ∧ topG ss f dip m s.1 s.2 = topR ss f dip)) (fun s => [(8, .int .i64 s.1), (7, .int .i64 s.2)]) [(0, _), (1, _), (2, _), (6, _)] (fun s => []) [] (fun s => ss.length - s.1) ((f + 1, f))
  · try dsimp only
    exact ⟨by omega, by omega, by omega, ss.length, by omega, rfl⟩
  · exact (sub_cons rfl (sub_cons rfl sub_nil))
  · exact (sub_cons rfl (sub_cons rfl (sub_cons rfl (sub_cons rfl sub_nil))))
  · exact subH_nil
  · exact subH_nil
  · rintro ⟨k, o⟩ ⟨hk1, hk2, ho, m, hm, hG⟩
    dsimp only at hk1 hk2 ho hm hG ⊢
    intro K5 hK5
    refine wp_seq' fun K6 hK6 => ?_
    refine wp_seq' fun K7 hK7 => ?_
    refine wp_regq (by kernel_rfl) (by kernel_rfl) ?_
    refine ql_r (r_move rfl) rfl ?_
    refine ql_r (r_move rfl) rfl ?_
    refine ql_r (r_len rfl sl22) rfl ?_
    refine ql_r (r_lss rfl rfl) rfl ?_
    refine ql_r (r_move rfl) rfl ?_
    refine ql_split (d := 16) rfl (fun hs16 => ?_) (fun hs16 => ?_)
    · have phs16 := hs16; try simp only [decide_eq_true_eq, decide_eq_false_iff_not, Bool.not_eq_true', Bool.not_eq_false', Bool.not_true, Bool.not_false] at phs16
      refine ql_g rfl rfl hs16 ?_
      refine ql_r (r_move rfl) rfl ?_
      refine ql_g rfl rfl hs16 ?_
      refine ql_r (r_move rfl) rfl ?_
      refine ql_g rfl rfl hs16 ?_
      refine ql_ixr hl rfl rfl sl22 (by omega) rfl fun x19 hx19 => ?_
      try simp only [Int.toNat_natCast] at hx19
      refine ql_g rfl rfl hs16 ?_
      refine ql_r (r_faw rfl (ix_some hl (by omega)) fl36_3) rfl ?_
      refine ql_g rfl rfl hs16 ?_
      refine ql_r (r_ldw rfl (fun w1 hb1 hs1 hB1 => Rd.loadsF (o := 3) hl sc3 hx19 hb1 rfl)) rfl ?_
      refine ql_g rfl rfl hs16 ?_
      refine ql_r (r_move rfl) rfl ?_
      refine ql_g rfl rfl hs16 ?_
      refine ql_r (r_move rfl) rfl ?_
      refine ql_g rfl rfl hs16 ?_
      refine ql_ixr hl rfl rfl sl22 (by omega) rfl fun x24 hx24 => ?_
      try simp only [Int.toNat_natCast] at hx24
      refine ql_g rfl rfl hs16 ?_
      refine ql_r (r_faw rfl (ix_some hl (by omega)) fl36_3) rfl ?_
      refine ql_g rfl rfl hs16 ?_
      refine ql_r (r_ldw rfl (fun w1 hb1 hs1 hB1 => Rd.loadsF (o := 3) hl sc3 hx24 hb1 rfl)) rfl ?_
      refine ql_g rfl rfl hs16 ?_
      refine ql_r (r_geq rfl rfl) rfl ?_
      refine ql_r (r_pickT rfl hs16 rfl) rfl ?_
      refine ql_r (r_move rfl) rfl ?_
      refine ql_split (d := 29) rfl (fun hs29 => ?_) (fun hs29 => ?_)
      · have phs29 := hs29; try simp only [decide_eq_true_eq, decide_eq_false_iff_not, Bool.not_eq_true', Bool.not_eq_false', Bool.not_true, Bool.not_false] at phs29
        refine ql_g rfl rfl hs29 ?_
        refine ql_r (r_move rfl) rfl ?_
        refine ql_g rfl rfl hs29 ?_
        refine ql_r (r_move rfl) rfl ?_
        refine ql_g rfl rfl hs29 ?_
        refine ql_ixr hl rfl rfl sl22 (by omega) rfl fun x32 hx32 => ?_
        try simp only [Int.toNat_natCast] at hx32
        refine ql_g rfl rfl hs29 ?_
        refine ql_r (r_faw rfl (ix_some hl (by omega)) fl36_3) rfl ?_
        refine ql_g rfl rfl hs29 ?_
        refine ql_r (r_ldw rfl (fun w1 hb1 hs1 hB1 => Rd.loadsF (o := 3) hl sc3 hx32 hb1 rfl)) rfl ?_
        refine ql_g rfl rfl hs29 ?_
        refine ql_r (r_move rfl) rfl ?_
        refine ql_g rfl rfl hs29 ?_
        refine ql_r (r_move rfl) rfl ?_
        refine ql_g rfl rfl hs29 ?_
        refine ql_ixr hl rfl rfl sl22 (by omega) rfl fun x37 hx37 => ?_
        try simp only [Int.toNat_natCast] at hx37
        refine ql_g rfl rfl hs29 ?_
        refine ql_r (r_faw rfl (ix_some hl (by omega)) fl36_3) rfl ?_
        refine ql_g rfl rfl hs29 ?_
        refine ql_r (r_ldw rfl (fun w1 hb1 hs1 hB1 => Rd.loadsF (o := 3) hl sc3 hx37 hb1 rfl)) rfl ?_
        refine ql_g rfl rfl hs29 ?_
        have z1 := hz _ (List.mem_of_getElem? hx32)
        have z2 := hz _ (List.mem_of_getElem? hx37)
        refine ql_r (r_sub rfl rfl (by omega)) rfl ?_
        refine ql_g rfl rfl hs29 ?_
        refine ql_r (r_move rfl) rfl ?_
        refine ql_g rfl rfl hs29 ?_
        refine ql_r (r_leq rfl rfl) rfl ?_
        refine ql_r (r_pickT rfl hs29 rfl) rfl ?_
        refine ql_nil (to_k0 (fun _ _ h => h) (hK7 _ _ _ _ _ ?_))
        clear hK7
        first | refine wp_condD rfl (fun hc43 => ?_) (fun hc43 => ?_) | refine wp_condN rfl (fun hc43 => ?_) (fun hc43 => ?_) | refine wp_condNB rfl (fun hc43 => ?_) (fun hc43 => ?_) | refine wp_cond' rfl (fun hc43 => ?_) (fun hc43 => ?_)
        · refine wp_skip' (to_k0 (fun _ _ h => h) (hK6 _ _ _ _ _ ?_))
          clear hK6
          refine wp_seq' fun K8 hK8 => ?_
          refine wp_block' ?_
          refine wp_seq' fun K9 hK9 => ?_
          refine wp_regq (by kernel_rfl) (by kernel_rfl) ?_
          refine ql_r (r_move rfl) rfl ?_
          refine ql_r (r_move rfl) rfl ?_
          refine ql_ixr hl rfl rfl sl22 (by omega) rfl fun x48 hx48 => ?_
          try simp only [Int.toNat_natCast] at hx48
          refine ql_r (r_faw rfl (ix_some hl (by omega)) fl36_3) rfl ?_
          refine ql_r (r_ldw rfl (fun w1 hb1 hs1 hB1 => Rd.loadsF (o := 3) hl sc3 hx48 hb1 rfl)) rfl ?_
          refine ql_r (r_move rfl) rfl ?_
          refine ql_r (r_move rfl) rfl ?_
          refine ql_ixr hl rfl rfl sl22 (by omega) rfl fun x53 hx53 => ?_
          try simp only [Int.toNat_natCast] at hx53
          refine ql_r (r_faw rfl (ix_some hl (by omega)) fl36_3) rfl ?_
          refine ql_r (r_ldw rfl (fun w1 hb1 hs1 hB1 => Rd.loadsF (o := 3) hl sc3 hx53 hb1 rfl)) rfl ?_
          refine ql_r (r_geq rfl rfl) rfl ?_
          refine ql_nil (to_k0 (fun _ _ h => h) (hK9 _ _ _ _ _ ?_))
          clear hK9
          first | refine wp_condD rfl (fun hc56 => ?_) (fun hc56 => ?_) | refine wp_condN rfl (fun hc56 => ?_) (fun hc56 => ?_) | refine wp_condNB rfl (fun hc56 => ?_) (fun hc56 => ?_) | refine wp_cond' rfl (fun hc56 => ?_) (fun hc56 => ?_)
          · refine wp_reg ?_
            refine ol_r (r_move rfl) rfl ?_
            refine ol_r (r_assign rfl) rfl ?_
            refine ol_nil (to_k0 (fun _ _ h => h) (hK8 _ _ _ _ _ ?_))
            clear hK8
            refine wp_reg ?_
            refine ol_r (r_move rfl) rfl ?_
            refine ol_r (r_add rfl rfl (by omega)) rfl ?_
            refine ol_r (r_assign rfl) rfl ?_
            refine ol_nil (to_k0 (fun _ _ h => h) (hK5 ((k + 1, _)) _ _ ?_ ?_ (sub_cons rfl (sub_cons rfl sub_nil)) (sub_cons rfl (sub_cons rfl (sub_cons rfl (sub_cons rfl sub_nil)))) (by exact subH_nil) subH_nil))
            · try dsimp only
              have g1 := zAt_eq hx19
              have g2 := zAt_eq hx24
              have g3 := zAt_eq hx32
              have g4 : k < ss.length ∧ zAt ss f ≤ zAt ss k ∧ zAt ss o - zAt ss k ≤ dip := ⟨by omega, by omega, by rw [g3, zAt_eq hx37]; omega⟩
              have g5 := zAt_eq hx48
              have g6 := zAt_eq hx53
              obtain ⟨m', rfl⟩ : ∃ m', m = m' + 1 := ⟨m - 1, by omega⟩
              rw [topG_go g4] at hG
              first
                | (rw [if_pos (by omega)] at hG
                   exact ⟨by omega, by omega, by omega, m', by omega, hG⟩)
                | (rw [if_neg (by omega)] at hG
                   exact ⟨by omega, by omega, by omega, m', by omega, hG⟩)
            · try dsimp only
              omega
          · refine wp_skip' (to_k0 (fun _ _ h => h) (hK8 _ _ _ _ _ ?_))
            clear hK8
            refine wp_reg ?_
            refine ol_r (r_move rfl) rfl ?_
            refine ol_r (r_add rfl rfl (by omega)) rfl ?_
            refine ol_r (r_assign rfl) rfl ?_
            refine ol_nil (to_k0 (fun _ _ h => h) (hK5 ((k + 1, _)) _ _ ?_ ?_ (sub_cons rfl (sub_cons rfl sub_nil)) (sub_cons rfl (sub_cons rfl (sub_cons rfl (sub_cons rfl sub_nil)))) (by exact subH_nil) subH_nil))
            · try dsimp only
              have g1 := zAt_eq hx19
              have g2 := zAt_eq hx24
              have g3 := zAt_eq hx32
              have g4 : k < ss.length ∧ zAt ss f ≤ zAt ss k ∧ zAt ss o - zAt ss k ≤ dip := ⟨by omega, by omega, by rw [g3, zAt_eq hx37]; omega⟩
              have g5 := zAt_eq hx48
              have g6 := zAt_eq hx53
              obtain ⟨m', rfl⟩ : ∃ m', m = m' + 1 := ⟨m - 1, by omega⟩
              rw [topG_go g4] at hG
              first
                | (rw [if_pos (by omega)] at hG
                   exact ⟨by omega, by omega, by omega, m', by omega, hG⟩)
                | (rw [if_neg (by omega)] at hG
                   exact ⟨by omega, by omega, by omega, m', by omega, hG⟩)
            · try dsimp only
              omega
        · refine wp_exit' (to_k0 (fun _ _ h => h) (hK3 _ _ _ _ _ ?_))
          clear hK3
          refine wp_seq' fun K10 hK10 => ?_
          refine wp_reg ?_
          refine ol_r (r_move rfl) rfl ?_
          refine ol_r (r_assign rfl) rfl ?_
          refine ol_nil (to_k0 (fun _ _ h => h) (hK10 _ _ _ _ _ ?_))
          clear hK10
          refine hQ.ret (rvs1 (rv_t rfl)) (fun _ _ h => h) fun w hb hs hB hkd => ?_
          have g3 := zAt_eq hx32
          have g4 := zAt_eq hx37
          exact ⟨by rw [← hG, topG_stop (fun h => by omega)], hb⟩
      · have phs29 := hs29; try simp only [decide_eq_true_eq, decide_eq_false_iff_not, Bool.not_eq_true', Bool.not_eq_false', Bool.not_true, Bool.not_false] at phs29
        refine ql_s rfl rfl hs29 rfl ?_
        refine ql_s rfl rfl hs29 rfl ?_
        refine ql_s rfl rfl hs29 rfl ?_
        refine ql_s rfl rfl hs29 rfl ?_
        refine ql_s rfl rfl hs29 rfl ?_
        refine ql_s rfl rfl hs29 rfl ?_
        refine ql_s rfl rfl hs29 rfl ?_
        refine ql_s rfl rfl hs29 rfl ?_
        refine ql_s rfl rfl hs29 rfl ?_
        refine ql_s rfl rfl hs29 rfl ?_
        refine ql_s rfl rfl hs29 rfl ?_
        refine ql_s rfl rfl hs29 rfl ?_
        refine ql_s rfl rfl hs29 rfl ?_
        refine ql_r (r_pickF rfl hs29 rfl) rfl ?_
        refine ql_nil (to_k0 (fun _ _ h => h) (hK7 _ _ _ _ _ ?_))
        clear hK7
        refine wp_condF rfl ?_
        refine wp_exit' (to_k0 (fun _ _ h => h) (hK3 _ _ _ _ _ ?_))
        clear hK3
        refine wp_seq' fun K11 hK11 => ?_
        refine wp_reg ?_
        refine ol_r (r_move rfl) rfl ?_
        refine ol_r (r_assign rfl) rfl ?_
        refine ol_nil (to_k0 (fun _ _ h => h) (hK11 _ _ _ _ _ ?_))
        clear hK11
        refine hQ.ret (rvs1 (rv_t rfl)) (fun _ _ h => h) fun w hb hs hB hkd => ?_
        have g1 := zAt_eq hx19
        have g2 := zAt_eq hx24
        exact ⟨by rw [← hG, topG_stop (fun h => by omega)], hb⟩
    · have phs16 := hs16; try simp only [decide_eq_true_eq, decide_eq_false_iff_not, Bool.not_eq_true', Bool.not_eq_false', Bool.not_true, Bool.not_false] at phs16
      refine ql_s rfl rfl hs16 rfl ?_
      refine ql_s rfl rfl hs16 rfl ?_
      refine ql_s rfl rfl hs16 rfl ?_
      refine ql_s rfl rfl hs16 rfl ?_
      refine ql_s rfl rfl hs16 rfl ?_
      refine ql_s rfl rfl hs16 rfl ?_
      refine ql_s rfl rfl hs16 rfl ?_
      refine ql_s rfl rfl hs16 rfl ?_
      refine ql_s rfl rfl hs16 rfl ?_
      refine ql_s rfl rfl hs16 rfl ?_
      refine ql_s rfl rfl hs16 rfl ?_
      refine ql_r (r_pickF rfl hs16 rfl) rfl ?_
      refine ql_r (r_move rfl) rfl ?_
      refine ql_s rfl rfl rfl rfl ?_
      refine ql_s rfl rfl rfl rfl ?_
      refine ql_s rfl rfl rfl rfl ?_
      refine ql_s rfl rfl rfl rfl ?_
      refine ql_s rfl rfl rfl rfl ?_
      refine ql_s rfl rfl rfl rfl ?_
      refine ql_s rfl rfl rfl rfl ?_
      refine ql_s rfl rfl rfl rfl ?_
      refine ql_s rfl rfl rfl rfl ?_
      refine ql_s rfl rfl rfl rfl ?_
      refine ql_s rfl rfl rfl rfl ?_
      refine ql_s rfl rfl rfl rfl ?_
      refine ql_s rfl rfl rfl rfl ?_
      refine ql_r (r_pickF rfl rfl rfl) rfl ?_
      refine ql_nil (to_k0 (fun _ _ h => h) (hK7 _ _ _ _ _ ?_))
      clear hK7
      refine wp_condF rfl ?_
      refine wp_exit' (to_k0 (fun _ _ h => h) (hK3 _ _ _ _ _ ?_))
      clear hK3
      refine wp_seq' fun K12 hK12 => ?_
      refine wp_reg ?_
      refine ol_r (r_move rfl) rfl ?_
      refine ol_r (r_assign rfl) rfl ?_
      refine ol_nil (to_k0 (fun _ _ h => h) (hK12 _ _ _ _ _ ?_))
      clear hK12
      refine hQ.ret (rvs1 (rv_t rfl)) (fun _ _ h => h) fun w hb hs hB hkd => ?_
      exact ⟨by rw [← hG, topG_stop (fun h => by omega)], hb⟩
theorem ref3_reach (a : Option Addr) (n c : Nat) (ss : List SmpR) (f : Nat) (dip : Int) (w : World) (hl : Rd encSmp w.heap.size w a n c ss) (hf : f < ss.length) (hz : ∀ x ∈ ss, -100000 ≤ x.z ∧ x.z ≤ 100000) :
    Calls Try.prog 51 #[.slice a n c, .int .i64 f, .int .i64 dip] w fun e w' => e = .returned (.int .i64 (topR ss f dip)) ∧ Below w.heap.size w w' := by
  have hn := hl.len
  have hfit := hl.fit
  refine enterQ (N := 59) (C := fun _ => True) (H := []) (B := w.heap.size) (args := [_, _, _]) Try.func51 rfl rfl rfl (Nat.le_refl _) (Sat.nil _ _) fun Q hQ => ?_
  refine wp_seq' fun K1 hK1 => ?_
  refine wp_reg ?_
  refine ol_r (r_assign rfl) rfl ?_
  refine ol_nil (to_k0 (fun _ _ h => h) (hK1 _ _ _ _ _ ?_))
  clear hK1
  refine wp_seq' fun K2 hK2 => ?_
  refine wp_reg ?_
  refine ol_r (r_move rfl) rfl ?_
  refine ol_r (r_assign rfl) rfl ?_
  refine ol_nil (to_k0 (fun _ _ h => h) (hK2 _ _ _ _ _ ?_))
  clear hK2
  refine wp_seq' fun K3 hK3 => ?_
  refine wp_seq' fun K4 hK4 => ?_
  refine wp_reg ?_
  refine ol_r (r_move rfl) rfl ?_
  refine ol_r (r_add rfl rfl (by omega)) rfl ?_
  refine ol_r (r_assign rfl) rfl ?_
  refine ol_nil (to_k0 (fun _ _ h => h) (hK4 _ _ _ _ _ ?_))
  clear hK4
  refine wp_block' ?_
  apply wp_loopM (σ := Nat × Nat) (fun s => f < s.1 ∧ s.1 ≤ ss.length ∧ s.2 < s.1 ∧ (∃ m, ss.length ≤ m + s.1 ∧ topG ss f dip m s.1 s.2 = topR ss f dip)) (fun s => [(8, .int .i64 s.1), (7, .int .i64 s.2)]) [(0, _), (1, _), (2, _), (6, _)] (fun s => []) [] (fun s => ss.length - s.1) ((f + 1, f))
  · try dsimp only
    exact ⟨by omega, by omega, by omega, ss.length, by omega, rfl⟩
  · exact (sub_cons rfl (sub_cons rfl sub_nil))
  · exact (sub_cons rfl (sub_cons rfl (sub_cons rfl (sub_cons rfl sub_nil))))
  · exact subH_nil
  · exact subH_nil
  · rintro ⟨k, o⟩ ⟨hk1, hk2, ho, m, hm, hG⟩
    dsimp only at hk1 hk2 ho hm hG ⊢
    intro K5 hK5
    refine wp_seq' fun K6 hK6 => ?_
    refine wp_seq' fun K7 hK7 => ?_
    refine wp_regq (by kernel_rfl) (by kernel_rfl) ?_
    refine ql_r (r_move rfl) rfl ?_
    refine ql_r (r_move rfl) rfl ?_
    refine ql_r (r_len rfl sl22) rfl ?_
    refine ql_r (r_lss rfl rfl) rfl ?_
    refine ql_r (r_move rfl) rfl ?_
    refine ql_split (d := 16) rfl (fun hs16 => ?_) (fun hs16 => ?_)
    · have phs16 := hs16; try simp only [decide_eq_true_eq, decide_eq_false_iff_not, Bool.not_eq_true', Bool.not_eq_false', Bool.not_true, Bool.not_false] at phs16
      refine ql_g rfl rfl hs16 ?_
      refine ql_r (r_move rfl) rfl ?_
      refine ql_g rfl rfl hs16 ?_
      refine ql_r (r_move rfl) rfl ?_
      refine ql_g rfl rfl hs16 ?_
      refine ql_ixr hl rfl rfl sl22 (by omega) rfl fun x19 hx19 => ?_
      try simp only [Int.toNat_natCast] at hx19
      refine ql_g rfl rfl hs16 ?_
      refine ql_r (r_faw rfl (ix_some hl (by omega)) fl36_3) rfl ?_
      refine ql_g rfl rfl hs16 ?_
      refine ql_r (r_ldw rfl (fun w1 hb1 hs1 hB1 => Rd.loadsF (o := 3) hl sc3 hx19 hb1 rfl)) rfl ?_
      refine ql_g rfl rfl hs16 ?_
      refine ql_r (r_move rfl) rfl ?_
      refine ql_g rfl rfl hs16 ?_
      refine ql_r (r_move rfl) rfl ?_
      refine ql_g rfl rfl hs16 ?_
      refine ql_ixr hl rfl rfl sl22 (by omega) rfl fun x24 hx24 => ?_
      try simp only [Int.toNat_natCast] at hx24
      refine ql_g rfl rfl hs16 ?_
      refine ql_r (r_faw rfl (ix_some hl (by omega)) fl36_3) rfl ?_
      refine ql_g rfl rfl hs16 ?_
      refine ql_r (r_ldw rfl (fun w1 hb1 hs1 hB1 => Rd.loadsF (o := 3) hl sc3 hx24 hb1 rfl)) rfl ?_
      refine ql_g rfl rfl hs16 ?_
      refine ql_r (r_geq rfl rfl) rfl ?_
      refine ql_r (r_pickT rfl hs16 rfl) rfl ?_
      refine ql_r (r_move rfl) rfl ?_
      refine ql_split (d := 29) rfl (fun hs29 => ?_) (fun hs29 => ?_)
      · have phs29 := hs29; try simp only [decide_eq_true_eq, decide_eq_false_iff_not, Bool.not_eq_true', Bool.not_eq_false', Bool.not_true, Bool.not_false] at phs29
        refine ql_g rfl rfl hs29 ?_
        refine ql_r (r_move rfl) rfl ?_
        refine ql_g rfl rfl hs29 ?_
        refine ql_r (r_move rfl) rfl ?_
        refine ql_g rfl rfl hs29 ?_
        refine ql_ixr hl rfl rfl sl22 (by omega) rfl fun x32 hx32 => ?_
        try simp only [Int.toNat_natCast] at hx32
        refine ql_g rfl rfl hs29 ?_
        refine ql_r (r_faw rfl (ix_some hl (by omega)) fl36_3) rfl ?_
        refine ql_g rfl rfl hs29 ?_
        refine ql_r (r_ldw rfl (fun w1 hb1 hs1 hB1 => Rd.loadsF (o := 3) hl sc3 hx32 hb1 rfl)) rfl ?_
        refine ql_g rfl rfl hs29 ?_
        refine ql_r (r_move rfl) rfl ?_
        refine ql_g rfl rfl hs29 ?_
        refine ql_r (r_move rfl) rfl ?_
        refine ql_g rfl rfl hs29 ?_
        refine ql_ixr hl rfl rfl sl22 (by omega) rfl fun x37 hx37 => ?_
        try simp only [Int.toNat_natCast] at hx37
        refine ql_g rfl rfl hs29 ?_
        refine ql_r (r_faw rfl (ix_some hl (by omega)) fl36_3) rfl ?_
        refine ql_g rfl rfl hs29 ?_
        refine ql_r (r_ldw rfl (fun w1 hb1 hs1 hB1 => Rd.loadsF (o := 3) hl sc3 hx37 hb1 rfl)) rfl ?_
        refine ql_g rfl rfl hs29 ?_
        have z1 := hz _ (List.mem_of_getElem? hx32)
        have z2 := hz _ (List.mem_of_getElem? hx37)
        refine ql_r (r_sub rfl rfl (by omega)) rfl ?_
        refine ql_g rfl rfl hs29 ?_
        refine ql_r (r_move rfl) rfl ?_
        refine ql_g rfl rfl hs29 ?_
        refine ql_r (r_leq rfl rfl) rfl ?_
        refine ql_r (r_pickT rfl hs29 rfl) rfl ?_
        refine ql_nil (to_k0 (fun _ _ h => h) (hK7 _ _ _ _ _ ?_))
        clear hK7
        first | refine wp_condD rfl (fun hc43 => ?_) (fun hc43 => ?_) | refine wp_condN rfl (fun hc43 => ?_) (fun hc43 => ?_) | refine wp_condNB rfl (fun hc43 => ?_) (fun hc43 => ?_) | refine wp_cond' rfl (fun hc43 => ?_) (fun hc43 => ?_)
        · refine wp_skip' (to_k0 (fun _ _ h => h) (hK6 _ _ _ _ _ ?_))
          clear hK6
          refine wp_seq' fun K8 hK8 => ?_
          refine wp_block' ?_
          refine wp_seq' fun K9 hK9 => ?_
          refine wp_regq (by kernel_rfl) (by kernel_rfl) ?_
          refine ql_r (r_move rfl) rfl ?_
          refine ql_r (r_move rfl) rfl ?_
          refine ql_ixr hl rfl rfl sl22 (by omega) rfl fun x48 hx48 => ?_
          try simp only [Int.toNat_natCast] at hx48
          refine ql_r (r_faw rfl (ix_some hl (by omega)) fl36_3) rfl ?_
          refine ql_r (r_ldw rfl (fun w1 hb1 hs1 hB1 => Rd.loadsF (o := 3) hl sc3 hx48 hb1 rfl)) rfl ?_
          refine ql_r (r_move rfl) rfl ?_
          refine ql_r (r_move rfl) rfl ?_
          refine ql_ixr hl rfl rfl sl22 (by omega) rfl fun x53 hx53 => ?_
          try simp only [Int.toNat_natCast] at hx53
          refine ql_r (r_faw rfl (ix_some hl (by omega)) fl36_3) rfl ?_
          refine ql_r (r_ldw rfl (fun w1 hb1 hs1 hB1 => Rd.loadsF (o := 3) hl sc3 hx53 hb1 rfl)) rfl ?_
          refine ql_r (r_geq rfl rfl) rfl ?_
          refine ql_nil (to_k0 (fun _ _ h => h) (hK9 _ _ _ _ _ ?_))
          clear hK9
          first | refine wp_condD rfl (fun hc56 => ?_) (fun hc56 => ?_) | refine wp_condN rfl (fun hc56 => ?_) (fun hc56 => ?_) | refine wp_condNB rfl (fun hc56 => ?_) (fun hc56 => ?_) | refine wp_cond' rfl (fun hc56 => ?_) (fun hc56 => ?_)
          · refine wp_reg ?_
            refine ol_r (r_move rfl) rfl ?_
            refine ol_r (r_assign rfl) rfl ?_
            refine ol_nil (to_k0 (fun _ _ h => h) (hK8 _ _ _ _ _ ?_))
            clear hK8
            refine wp_reg ?_
            refine ol_r (r_move rfl) rfl ?_
            refine ol_r (r_add rfl rfl (by omega)) rfl ?_
            refine ol_r (r_assign rfl) rfl ?_
            refine ol_nil (to_k0 (fun _ _ h => h) (hK5 ((k + 1, _)) _ _ ?_ ?_ (sub_cons rfl (sub_cons rfl sub_nil)) (sub_cons rfl (sub_cons rfl (sub_cons rfl (sub_cons rfl sub_nil)))) (by exact subH_nil) subH_nil))
            · try dsimp only
              have g1 := zAt_eq hx19
              have g2 := zAt_eq hx24
              have g3 := zAt_eq hx32
              have g4 : k < ss.length ∧ zAt ss f ≤ zAt ss k ∧ zAt ss o - zAt ss k ≤ dip := ⟨by omega, by omega, by rw [g3, zAt_eq hx37]; omega⟩
              have g5 := zAt_eq hx48
              have g6 := zAt_eq hx53
              obtain ⟨m', rfl⟩ : ∃ m', m = m' + 1 := ⟨m - 1, by omega⟩
              rw [topG_go g4] at hG
              first
                | (rw [if_pos (by omega)] at hG
                   exact ⟨by omega, by omega, by omega, m', by omega, hG⟩)
                | (rw [if_neg (by omega)] at hG
                   exact ⟨by omega, by omega, by omega, m', by omega, hG⟩)
            · try dsimp only
              omega
          · refine wp_skip' (to_k0 (fun _ _ h => h) (hK8 _ _ _ _ _ ?_))
            clear hK8
            refine wp_reg ?_
            refine ol_r (r_move rfl) rfl ?_
            refine ol_r (r_add rfl rfl (by omega)) rfl ?_
            refine ol_r (r_assign rfl) rfl ?_
            refine ol_nil (to_k0 (fun _ _ h => h) (hK5 ((k + 1, _)) _ _ ?_ ?_ (sub_cons rfl (sub_cons rfl sub_nil)) (sub_cons rfl (sub_cons rfl (sub_cons rfl (sub_cons rfl sub_nil)))) (by exact subH_nil) subH_nil))
            · try dsimp only
              have g1 := zAt_eq hx19
              have g2 := zAt_eq hx24
              have g3 := zAt_eq hx32
              have g4 : k < ss.length ∧ zAt ss f ≤ zAt ss k ∧ zAt ss o - zAt ss k ≤ dip := ⟨by omega, by omega, by rw [g3, zAt_eq hx37]; omega⟩
              have g5 := zAt_eq hx48
              have g6 := zAt_eq hx53
              obtain ⟨m', rfl⟩ : ∃ m', m = m' + 1 := ⟨m - 1, by omega⟩
              rw [topG_go g4] at hG
              first
                | (rw [if_pos (by omega)] at hG
                   exact ⟨by omega, by omega, by omega, m', by omega, hG⟩)
                | (rw [if_neg (by omega)] at hG
                   exact ⟨by omega, by omega, by omega, m', by omega, hG⟩)
            · try dsimp only
              omega
        · refine wp_exit' (to_k0 (fun _ _ h => h) (hK3 _ _ _ _ _ ?_))
          clear hK3
          refine wp_seq' fun K10 hK10 => ?_
          refine wp_reg ?_
          refine ol_r (r_move rfl) rfl ?_
          refine ol_r (r_assign rfl) rfl ?_
          refine ol_nil (to_k0 (fun _ _ h => h) (hK10 _ _ _ _ _ ?_))
          clear hK10
          refine hQ.ret (rvs1 (rv_t rfl)) (fun _ _ h => h) fun w hb hs hB hkd => ?_
          have g3 := zAt_eq hx32
          have g4 := zAt_eq hx37
          exact ⟨by rw [← hG, topG_stop (fun h => by omega)], hb⟩
      · have phs29 := hs29; try simp only [decide_eq_true_eq, decide_eq_false_iff_not, Bool.not_eq_true', Bool.not_eq_false', Bool.not_true, Bool.not_false] at phs29
        refine ql_s rfl rfl hs29 rfl ?_
        refine ql_s rfl rfl hs29 rfl ?_
        refine ql_s rfl rfl hs29 rfl ?_
        refine ql_s rfl rfl hs29 rfl ?_
        refine ql_s rfl rfl hs29 rfl ?_
        refine ql_s rfl rfl hs29 rfl ?_
        refine ql_s rfl rfl hs29 rfl ?_
        refine ql_s rfl rfl hs29 rfl ?_
        refine ql_s rfl rfl hs29 rfl ?_
        refine ql_s rfl rfl hs29 rfl ?_
        refine ql_s rfl rfl hs29 rfl ?_
        refine ql_s rfl rfl hs29 rfl ?_
        refine ql_s rfl rfl hs29 rfl ?_
        refine ql_r (r_pickF rfl hs29 rfl) rfl ?_
        refine ql_nil (to_k0 (fun _ _ h => h) (hK7 _ _ _ _ _ ?_))
        clear hK7
        refine wp_condF rfl ?_
        refine wp_exit' (to_k0 (fun _ _ h => h) (hK3 _ _ _ _ _ ?_))
        clear hK3
        refine wp_seq' fun K11 hK11 => ?_
        refine wp_reg ?_
        refine ol_r (r_move rfl) rfl ?_
        refine ol_r (r_assign rfl) rfl ?_
        refine ol_nil (to_k0 (fun _ _ h => h) (hK11 _ _ _ _ _ ?_))
        clear hK11
        refine hQ.ret (rvs1 (rv_t rfl)) (fun _ _ h => h) fun w hb hs hB hkd => ?_
        have g1 := zAt_eq hx19
        have g2 := zAt_eq hx24
        exact ⟨by rw [← hG, topG_stop (fun h => by omega)], hb⟩
    · have phs16 := hs16; try simp only [decide_eq_true_eq, decide_eq_false_iff_not, Bool.not_eq_true', Bool.not_eq_false', Bool.not_true, Bool.not_false] at phs16
      refine ql_s rfl rfl hs16 rfl ?_
      refine ql_s rfl rfl hs16 rfl ?_
      refine ql_s rfl rfl hs16 rfl ?_
      refine ql_s rfl rfl hs16 rfl ?_
      refine ql_s rfl rfl hs16 rfl ?_
      refine ql_s rfl rfl hs16 rfl ?_
      refine ql_s rfl rfl hs16 rfl ?_
      refine ql_s rfl rfl hs16 rfl ?_
      refine ql_s rfl rfl hs16 rfl ?_
      refine ql_s rfl rfl hs16 rfl ?_
      refine ql_s rfl rfl hs16 rfl ?_
      refine ql_r (r_pickF rfl hs16 rfl) rfl ?_
      refine ql_r (r_move rfl) rfl ?_
      refine ql_s rfl rfl rfl rfl ?_
      refine ql_s rfl rfl rfl rfl ?_
      refine ql_s rfl rfl rfl rfl ?_
      refine ql_s rfl rfl rfl rfl ?_
      refine ql_s rfl rfl rfl rfl ?_
      refine ql_s rfl rfl rfl rfl ?_
      refine ql_s rfl rfl rfl rfl ?_
      refine ql_s rfl rfl rfl rfl ?_
      refine ql_s rfl rfl rfl rfl ?_
      refine ql_s rfl rfl rfl rfl ?_
      refine ql_s rfl rfl rfl rfl ?_
      refine ql_s rfl rfl rfl rfl ?_
      refine ql_s rfl rfl rfl rfl ?_
      refine ql_r (r_pickF rfl rfl rfl) rfl ?_
      refine ql_nil (to_k0 (fun _ _ h => h) (hK7 _ _ _ _ _ ?_))
      clear hK7
      refine wp_condF rfl ?_
      refine wp_exit' (to_k0 (fun _ _ h => h) (hK3 _ _ _ _ _ ?_))
      clear hK3
      refine wp_seq' fun K12 hK12 => ?_
      refine wp_reg ?_
      refine ol_r (r_move rfl) rfl ?_
      refine ol_r (r_assign rfl) rfl ?_
      refine ol_nil (to_k0 (fun _ _ h => h) (hK12 _ _ _ _ _ ?_))
      clear hK12
      refine hQ.ret (rvs1 (rv_t rfl)) (fun _ _ h => h) fun w hb hs hB hkd => ?_
      exact ⟨by rw [← hG, topG_stop (fun h => by omega)], hb⟩
theorem drop_get {α : Type} {xs : List α} {k : Nat} {x : α} {r : List α} (h : xs.drop k = x :: r) : xs[k]? = some x := by
  have := congrArg (·[0]?) h
  simpa using this
theorem drop_next {α : Type} {xs : List α} {k : Nat} {x : α} {r : List α} (h : xs.drop k = x :: r) : xs.drop (k + 1) = r := by
  rw [← List.drop_drop, h]; rfl
theorem drop_len {α : Type} {xs : List α} {k : Nat} {x : α} {r : List α} (h : xs.drop k = x :: r) : k + 1 ≤ xs.length := (List.getElem?_eq_some_iff.1 (drop_get h)).1
theorem track_Hills (A : ActV) (least dip : Int) (w : World) (hA : A.Ok w.heap.size w) :
    Calls Try.prog 20 #[.agg #[.string A.name, .int .i64 A.sport, .int .i64 A.start, .slice A.sa A.sn A.sc, .slice A.la A.ln A.lc, .slice A.ta A.tn A.tc], .int .i64 least, .int .i64 dip] w fun e w' => ∃ b m k, e = .returned (.tuple #[.slice b m k, .int .i64 (hillsR A.d least dip).2]) ∧ Fresh encHill 49 w w' b m k (hillsR A.d least dip).1 := by
  have hsn := hA.s.len
  have hsf := hA.s.fit
  have hwl := wayL_len A.ss
  refine enterQ (N := 75) (C := fun _ => True) (H := []) (B := w.heap.size) (args := [_, _, _]) Try.func20 rfl rfl rfl (Nat.le_refl _) (Sat.nil _ _) fun Q hQ => ?_
  refine wp_seq' fun K1 hK1 => ?_
  refine wp_reg ?_
  refine ol_box 3 rfl rfl rfl fun b3 => ?_
  refine ol_r (r_assign rfl) rfl ?_
  refine ol_r (r_assign rfl) rfl ?_
  refine ol_nil (to_k0 (fun _ _ h => h) (hK1 _ _ _ _ _ ?_))
  clear hK1
  refine wp_seq' fun K2 hK2 => ?_
  refine wp_seq' fun K3 hK3 => ?_
  refine wp_reg ?_
  refine ol_r (r_lda (id := 3) (n := 6) rfl rfl rfl ag26) rfl ?_
  refine ol_call rfl rfl cb36 rfl (fun w1 hb1 hs1 hB1 => Calls.mono (record_Check A _ (hA.at hb1 hB1)) ?_)
  rintro e w2 ⟨rfl, hb2⟩
  refine After.below rfl hb1 hs1 hB1 hb2 ?_
  clear hb2 hB1 hs1 hb1 w2 w1
  refine ol_r (r_assign rfl) rfl ?_
  refine ol_nil (to_k0 (fun _ _ h => h) (hK3 _ _ _ _ _ ?_))
  clear hK3
  refine wp_seq' fun K4 hK4 => ?_
  refine wp_reg ?_
  refine ol_r (r_move rfl) rfl ?_
  refine ol_r (r_neq rfl rfl) rfl ?_
  refine ol_nil (to_k0 (fun _ _ h => h) (hK4 _ _ _ _ _ ?_))
  clear hK4
  first | refine wp_condD rfl (fun hc17 => ?_) (fun hc17 => ?_) | refine wp_condN rfl (fun hc17 => ?_) (fun hc17 => ?_) | refine wp_condNB rfl (fun hc17 => ?_) (fun hc17 => ?_) | refine wp_cond' rfl (fun hc17 => ?_) (fun hc17 => ?_)
  · refine wp_seq' fun K5 hK5 => ?_
    refine wp_reg ?_
    refine ol_r (r_move rfl) rfl ?_
    refine ol_r (r_assign rfl) rfl ?_
    refine ol_r (r_assign rfl) rfl ?_
    refine ol_nil (to_k0 (fun _ _ h => h) (hK5 _ _ _ _ _ ?_))
    clear hK5
    refine hQ.ret (rvs2 (rv_t rfl) (rv_t rfl)) (fun _ _ h => h) fun w hb hs hB hkd => ?_
    have h := hillsR_e (l := least) (d := dip) hc17
    exact ⟨none, 0, 0, by rw [h], by rw [h]; exact Fresh.nil hb⟩
  · refine wp_skip' (to_k0 (fun _ _ h => h) (hK2 _ _ _ _ _ ?_))
    clear hK2
    refine wp_seq' fun K6 hK6 => ?_
    refine wp_seq' fun K7 hK7 => ?_
    refine wp_reg ?_
    refine ol_r (r_move rfl) rfl ?_
    refine ol_call rfl rfl cb37 rfl (fun w1 hb1 hs1 hB1 => Calls.mono (track_in _ _ _ _) ?_)
    rintro e w2 ⟨rfl, hb2⟩
    refine After.below rfl hb1 hs1 hB1 hb2 ?_
    clear hb2 hB1 hs1 hb1 w2 w1
    refine ol_r (r_not rfl) rfl ?_
    refine ol_r (r_move rfl) rfl ?_
    refine ol_split (d := 22) rfl (fun hs22 => ?_) (fun hs22 => ?_)
    · have phs22 := hs22; try simp only [decide_eq_true_eq, decide_eq_false_iff_not, Bool.not_eq_true', Bool.not_eq_false', Bool.not_true, Bool.not_false] at phs22
      refine ol_s rfl rfl hs22 rfl ?_
      refine ol_s rfl rfl hs22 rfl ?_
      refine ol_s rfl rfl hs22 rfl ?_
      refine ol_r (r_pickT rfl hs22 rfl) rfl ?_
      refine ol_nil (to_k0 (fun _ _ h => h) (hK7 _ _ _ _ _ ?_))
      clear hK7
      refine wp_condT rfl ?_
      refine wp_seq' fun K8 hK8 => ?_
      refine wp_reg ?_
      refine ol_r (r_assign rfl) rfl ?_
      refine ol_r (r_assign rfl) rfl ?_
      refine ol_nil (to_k0 (fun _ _ h => h) (hK8 _ _ _ _ _ ?_))
      clear hK8
      refine hQ.ret (rvs2 (rv_t rfl) (rv_t rfl)) (fun _ _ h => h) fun w hb hs hB hkd => ?_
      have h := hillsR_9 (Decidable.not_not.1 hc17) (l := least) (d := dip) (fun h => by have := inB_iff.2 h.1; rw [this] at phs22; cases phs22)
      exact ⟨none, 0, 0, by rw [h], by rw [h]; exact Fresh.nil hb⟩
    · have phs22 := hs22; try simp only [decide_eq_true_eq, decide_eq_false_iff_not, Bool.not_eq_true', Bool.not_eq_false', Bool.not_true, Bool.not_false] at phs22
      refine ol_g rfl rfl hs22 ?_
      refine ol_r (r_move rfl) rfl ?_
      refine ol_g rfl rfl hs22 ?_
      refine ol_call rfl rfl cb37 rfl (fun w1 hb1 hs1 hB1 => Calls.mono (track_in _ _ _ _) ?_)
      rintro e w2 ⟨rfl, hb2⟩
      refine After.below rfl hb1 hs1 hB1 hb2 ?_
      clear hb2 hB1 hs1 hb1 w2 w1
      refine ol_g rfl rfl hs22 ?_
      refine ol_r (r_not rfl) rfl ?_
      refine ol_r (r_pickF rfl hs22 rfl) rfl ?_
      refine ol_nil (to_k0 (fun _ _ h => h) (hK7 _ _ _ _ _ ?_))
      clear hK7
      first | refine wp_condD rfl (fun hc26 => ?_) (fun hc26 => ?_) | refine wp_condN rfl (fun hc26 => ?_) (fun hc26 => ?_) | refine wp_condNB rfl (fun hc26 => ?_) (fun hc26 => ?_) | refine wp_cond' rfl (fun hc26 => ?_) (fun hc26 => ?_)
      · refine wp_seq' fun K9 hK9 => ?_
        refine wp_reg ?_
        refine ol_r (r_assign rfl) rfl ?_
        refine ol_r (r_assign rfl) rfl ?_
        refine ol_nil (to_k0 (fun _ _ h => h) (hK9 _ _ _ _ _ ?_))
        clear hK9
        refine hQ.ret (rvs2 (rv_t rfl) (rv_t rfl)) (fun _ _ h => h) fun w hb hs hB hkd => ?_
        have h := hillsR_9 (Decidable.not_not.1 hc17) (l := least) (d := dip) (fun h => by have := inB_iff.2 h.2; rw [this] at hc26; cases hc26)
        exact ⟨none, 0, 0, by rw [h], by rw [h]; exact Fresh.nil hb⟩
      · refine wp_skip' (to_k0 (fun _ _ h => h) (hK6 _ _ _ _ _ ?_))
        clear hK6
        refine wp_seq' fun K10 hK10 => ?_
        refine wp_reg ?_
        have h0 : chkA A.d = 0 := Decidable.not_not.1 hc17
        have hok : SmpOk A.start A.ss := (goodA h0).smp
        have hl20 := hok.len
        have hin : (1 ≤ least ∧ least ≤ 200000) ∧ (0 ≤ dip ∧ dip ≤ 200000) := ⟨inB_iff.1 (by simpa using phs22), inB_iff.1 (by simpa using hc26)⟩
        have hz : ∀ x ∈ A.ss, -100000 ≤ x.z ∧ x.z ≤ 100000 := fun x hx => hok.hgt hx
        refine ol_r (r_lda (id := 3) (n := 6) rfl rfl rfl ag26) rfl ?_
        refine ol_call rfl rfl cb48 rfl (fun w1 hb1 hs1 hB1 => Calls.mono (track_ways A _ (hA.at hb1 hB1) hok) ?_)
        rintro e w2 ⟨a28, n28, c28, rfl, hf28⟩
        refine After.fresh (id := 28) rfl hb1 hs1 hB1 hf28 ?_
        have hl28 := hf28.len; clear hf28 hB1 hs1 hb1 w2 w1
        refine ol_r (r_assign rfl) rfl ?_
        refine ol_nil (to_k0 (fun _ _ h => h) (hK10 _ _ _ _ _ ?_))
        clear hK10
        refine wp_seq' fun K11 hK11 => ?_
        refine wp_reg ?_
        refine ol_nilrow 10 49 4 ?_
        refine ol_r (r_assign rfl) rfl ?_
        refine ol_nil (to_k0 (fun _ _ h => h) (hK11 _ _ _ _ _ ?_))
        clear hK11
        refine wp_seq' fun K12 hK12 => ?_
        refine wp_seq' fun K13 hK13 => ?_
        refine wp_reg ?_
        refine ol_r (r_assign rfl) rfl ?_
        refine ol_nil (to_k0 (fun _ _ h => h) (hK13 _ _ _ _ _ ?_))
        clear hK13
        refine wp_block' ?_
        apply wp_loopM (σ := Int × Nat × Option Addr × Nat) (fun s => ∃ i : Nat, s.1 = i ∧ i ≤ A.ss.length ∧ s.2.1 ≤ i ∧ s.2.1 ≤ (hillsG A.ss least dip A.ss.length 0).length ∧ ∃ m, A.ss.length ≤ m + i ∧ (hillsG A.ss least dip A.ss.length 0).drop s.2.1 = hillsG A.ss least dip m i) (fun s => [(11, .int .i64 s.1), (10, .slice s.2.2.1 s.2.1 s.2.2.2)]) [(1, _), (2, _), (3, _), (6, _), (7, _), (9, _)] (fun s => [(10, .row s.2.2.1 s.2.1 s.2.2.2 (encHill.enc ((hillsG A.ss least dip A.ss.length 0).take s.2.1)) 49 4)]) [(3, _), (28, _)] (fun s => A.ss.length - s.1.toNat) ((0, 0, none, 0))
        · try dsimp only
          exact ⟨0, rfl, Nat.zero_le _, Nat.le_refl _, Nat.zero_le _, _, by omega, rfl⟩
        · exact (sub_cons rfl (sub_cons rfl sub_nil))
        · exact (sub_cons rfl (sub_cons rfl (sub_cons rfl (sub_cons rfl (sub_cons rfl (sub_cons rfl sub_nil))))))
        · exact (subH_row rfl (by first | (dsimp only; rfl; done) | (rfl; done) | (dsimp only; done)) subH_nil)
        · exact (subH_same rfl (subH_same rfl subH_nil))
        · rintro ⟨iI, cnt, oa, oc⟩ ⟨i, hI, hi, hc, hcl, m, hm, hT⟩
          dsimp only at hI hi hc hcl hm hT ⊢
          subst hI
          intro K14 hK14
          refine wp_seq' fun K15 hK15 => ?_
          refine wp_seq' fun K16 hK16 => ?_
          refine wp_reg ?_
          refine ol_r (r_move rfl) rfl ?_
          refine ol_r (r_fa (o' := 3) rfl fl26_3 rfl) rfl ?_
          refine ol_r (r_ld (id := 3) rfl rfl rfl sc22) rfl ?_
          refine ol_r (r_len rfl sl22) rfl ?_
          refine ol_r (r_lss rfl rfl) rfl ?_
          refine ol_nil (to_k0 (fun _ _ h => h) (hK16 _ _ _ _ _ ?_))
          clear hK16
          first | refine wp_condD rfl (fun hc33 => ?_) (fun hc33 => ?_) | refine wp_condN rfl (fun hc33 => ?_) (fun hc33 => ?_) | refine wp_condNB rfl (fun hc33 => ?_) (fun hc33 => ?_) | refine wp_cond' rfl (fun hc33 => ?_) (fun hc33 => ?_)
          · refine wp_skip' (to_k0 (fun _ _ h => h) (hK15 _ _ _ _ _ ?_))
            clear hK15
            refine wp_seq' fun K17 hK17 => ?_
            refine wp_block' ?_
            refine wp_seq' fun K18 hK18 => ?_
            refine wp_reg ?_
            refine ol_r (r_fa (o' := 3) rfl fl26_3 rfl) rfl ?_
            refine ol_r (r_ld (id := 3) rfl rfl rfl sc22) rfl ?_
            refine ol_r (r_move rfl) rfl ?_
            refine ol_r (r_move rfl) rfl ?_
            refine ol_call rfl rfl cb50 rfl (fun w1 hb1 hs1 hB1 => Calls.mono (track_top _ _ _ A.ss i dip _ (hA.s.at hb1 hB1) (by omega) hz) ?_)
            rintro e w2 ⟨rfl, hb2⟩
            refine After.below rfl hb1 hs1 hB1 hb2 ?_
            clear hb2 hB1 hs1 hb1 w2 w1
            refine ol_r (r_assign rfl) rfl ?_
            refine ol_nil (to_k0 (fun _ _ h => h) (hK18 _ _ _ _ _ ?_))
            clear hK18
            refine wp_seq' fun K19 hK19 => ?_
            refine wp_regq (by kernel_rfl) (by kernel_rfl) ?_
            refine ql_r (r_fa (o' := 3) rfl fl26_3 rfl) rfl ?_
            refine ql_r (r_ld (id := 3) rfl rfl rfl sc22) rfl ?_
            refine ql_r (r_move rfl) rfl ?_
            have ht := topR_bd (dip := dip) (f := i) (ss := A.ss) (by omega)
            refine ql_ixr hA.s rfl rfl sl22 (by omega) rfl fun x44 hx44 => ?_
            try simp only [Int.toNat_natCast] at hx44
            refine ql_r (r_faw rfl (ix_some hA.s (by omega)) fl36_3) rfl ?_
            refine ql_r (r_ldw rfl (fun w1 hb1 hs1 hB1 => Rd.loadsF (o := 3) hA.s sc3 hx44 hb1 rfl)) rfl ?_
            refine ql_r (r_fa (o' := 3) rfl fl26_3 rfl) rfl ?_
            refine ql_r (r_ld (id := 3) rfl rfl rfl sc22) rfl ?_
            refine ql_r (r_move rfl) rfl ?_
            refine ql_ixr hA.s rfl rfl sl22 (by omega) rfl fun x50 hx50 => ?_
            try simp only [Int.toNat_natCast] at hx50
            refine ql_r (r_faw rfl (ix_some hA.s (by omega)) fl36_3) rfl ?_
            refine ql_r (r_ldw rfl (fun w1 hb1 hs1 hB1 => Rd.loadsF (o := 3) hA.s sc3 hx50 hb1 rfl)) rfl ?_
            have z1 := hz _ (List.mem_of_getElem? hx44)
            have z2 := hz _ (List.mem_of_getElem? hx50)
            have g44 := zAt_eq hx44
            obtain ⟨m', rfl⟩ : ∃ m', m = m' + 1 := ⟨m - 1, by omega⟩
            refine ql_r (r_sub rfl rfl (by omega)) rfl ?_
            refine ql_r (r_assign rfl) rfl ?_
            refine ql_nil (to_k0 (fun _ _ h => h) (hK19 _ _ _ _ _ ?_))
            clear hK19
            refine wp_seq' fun K20 hK20 => ?_
            refine wp_reg ?_
            refine ol_r (r_move rfl) rfl ?_
            refine ol_r (r_move rfl) rfl ?_
            refine ol_r (r_geq rfl rfl) rfl ?_
            refine ol_nil (to_k0 (fun _ _ h => h) (hK20 _ _ _ _ _ ?_))
            clear hK20
            first | refine wp_condD rfl (fun hc56 => ?_) (fun hc56 => ?_) | refine wp_condN rfl (fun hc56 => ?_) (fun hc56 => ?_) | refine wp_condNB rfl (fun hc56 => ?_) (fun hc56 => ?_) | refine wp_cond' rfl (fun hc56 => ?_) (fun hc56 => ?_)
            · refine wp_seq' fun K21 hK21 => ?_
              refine wp_rega [(999, [(3, _), (28, _)]), (15, [(10, _)])] (by kernel_rfl) ⟨.inr (subH_same rfl (subH_same rfl subH_nil)), ⟨.inr (subH_same rfl subH_nil), trivial⟩⟩ ?_
              refine aq_r 0 999 rfl (by kernel_rfl) (by kernel_rfl) (by kernel_rfl) (.head _) (by kernel_rfl) (by kernel_rfl) rfl (r_move rfl) ?_
              refine aq_r 1 999 rfl (by kernel_rfl) (by kernel_rfl) (by kernel_rfl) (.head _) (by kernel_rfl) (by kernel_rfl) rfl (r_move rfl) ?_
              refine aq_r 2 999 rfl (by kernel_rfl) (by kernel_rfl) (by kernel_rfl) (.head _) (by kernel_rfl) (by kernel_rfl) rfl (r_move rfl) ?_
              refine aq_r 3 999 rfl (by kernel_rfl) (by kernel_rfl) (by kernel_rfl) (.head _) (by kernel_rfl) (by kernel_rfl) rfl (r_move rfl) ?_
              refine aq_r 4 999 rfl (by kernel_rfl) (by kernel_rfl) (by kernel_rfl) (.head _) (by kernel_rfl) (by kernel_rfl) rfl (r_move rfl) ?_
              refine aq_r 5 999 rfl (by kernel_rfl) (by kernel_rfl) (by kernel_rfl) (.head _) (by kernel_rfl) (by kernel_rfl) rfl (r_move rfl) ?_
              refine aq_ixo 6 999 rfl (by kernel_rfl) (by kernel_rfl) (by kernel_rfl) (.head _) (by kernel_rfl) (by kernel_rfl) rfl (id := 28) encI _ rfl rfl rfl rfl sl34 (by omega) (by omega) fun x63 hx63 => ?_
              try simp only [Int.toNat_natCast] at hx63
              try simp only [Int.toNat_natCast] at hx63
              refine aq_r 7 999 rfl (by kernel_rfl) (by kernel_rfl) (by kernel_rfl) (.head _) (by kernel_rfl) (by kernel_rfl) rfl (r_ldw rfl (fun w1 hb1 hs1 hB1 => show Loads _ _ _ _ (.int .i64 x63) from ld_own (id := 28) hs1 rfl rfl ty3 hx63)) ?_
              refine aq_r 8 999 rfl (by kernel_rfl) (by kernel_rfl) (by kernel_rfl) (.head _) (by kernel_rfl) (by kernel_rfl) rfl (r_move rfl) ?_
              refine aq_r 9 999 rfl (by kernel_rfl) (by kernel_rfl) (by kernel_rfl) (.head _) (by kernel_rfl) (by kernel_rfl) rfl (r_move rfl) ?_
              refine aq_ixo 10 999 rfl (by kernel_rfl) (by kernel_rfl) (by kernel_rfl) (.head _) (by kernel_rfl) (by kernel_rfl) rfl (id := 28) encI _ rfl rfl rfl rfl sl34 (by omega) (by omega) fun x67 hx67 => ?_
              try simp only [Int.toNat_natCast] at hx67
              try simp only [Int.toNat_natCast] at hx67
              refine aq_r 11 999 rfl (by kernel_rfl) (by kernel_rfl) (by kernel_rfl) (.head _) (by kernel_rfl) (by kernel_rfl) rfl (r_ldw rfl (fun w1 hb1 hs1 hB1 => show Loads _ _ _ _ (.int .i64 x67) from ld_own (id := 28) hs1 rfl rfl ty3 hx67)) ?_
              have h63 := runW_get hx63
              have h67 := runW_get hx67
              subst h63
              subst h67
              have b63 := wayN_bd hok (topR A.ss i dip)
              have b67 := wayN_bd hok i
              have hH := hT
              rw [hillsG_hill (by omega) (by rw [g44, zAt_eq hx50]; omega)] at hH
              have hg := drop_get hH
              have hgd := drop_next hH
              have hgl := drop_len hH
              refine aq_r 12 999 rfl (by kernel_rfl) (by kernel_rfl) (by kernel_rfl) (.head _) (by kernel_rfl) (by kernel_rfl) rfl (r_sub rfl rfl (by omega)) ?_
              refine aq_r 13 999 rfl (by kernel_rfl) (by kernel_rfl) (by kernel_rfl) (.head _) (by kernel_rfl) (by kernel_rfl) rfl (r_build rfl (fun _ => bd49_0_1_2_3 _ _ _ _ _)) ?_
              refine aq_one (i := 14) (by kernel_rfl) rfl fun K22 hK22 => ?_
              refine ol_bs1 71 rfl rfl rw44 rfl rfl rfl fun a71 => ?_
              refine ol_nil (to_k0 (fun _ _ h => h) (hK22 _ _ ⟨.inr (by repeat' first | exact subH_nil | refine subH_same rfl ?_ | (refine subH_blk rfl (by repeat' first | exact sub_nil | refine sub_cons rfl ?_) ?_)), ⟨.inr (by repeat' first | exact subH_nil | refine subH_same rfl ?_ | (refine subH_blk rfl (by repeat' first | exact sub_nil | refine sub_cons rfl ?_) ?_)), trivial⟩⟩ ?_))
              clear hK22
              refine aq_one (i := 15) (by kernel_rfl) rfl fun K23 hK23 => ?_
              refine ol_append1 (id := 10) (id2 := 71) rfl rfl rfl rfl rfl rw44 (by omega) rfl fun a72 c72 => ?_
              refine ol_nil (to_k0 (fun _ _ h => h) (hK23 _ _ ⟨.inr (by repeat' first | exact subH_nil | refine subH_same rfl ?_ | (refine subH_blk rfl (by repeat' first | exact sub_nil | refine sub_cons rfl ?_) ?_)), ⟨.inl (by kernel_rfl), trivial⟩⟩ ?_))
              clear hK23
              refine aq_r 16 999 rfl (by kernel_rfl) (by kernel_rfl) (by kernel_rfl) (.head _) (by kernel_rfl) (by kernel_rfl) rfl (r_assign rfl) ?_
              refine aq_done (by kernel_rfl) ?_
              refine (to_k0 (fun _ _ h => h) (hK21 _ _ _ _ _ ?_))
              clear hK21
              refine wp_reg ?_
              refine ol_r (r_move rfl) rfl ?_
              refine ol_r (r_assign rfl) rfl ?_
              refine ol_nil (to_k0 (fun _ _ h => h) (hK17 _ _ _ _ _ ?_))
              clear hK17
              refine wp_reg ?_
              refine ol_r (r_move rfl) rfl ?_
              refine ol_r (r_add rfl rfl (by omega)) rfl ?_
              refine ol_r (r_assign rfl) rfl ?_
              refine ol_nil (to_k0 (fun _ _ h => h) (hK14 ((_, _, _, _)) _ _ ?_ ?_ (sub_cons rfl (sub_cons rfl sub_nil)) (sub_cons rfl (sub_cons rfl (sub_cons rfl (sub_cons rfl (sub_cons rfl (sub_cons rfl sub_nil)))))) (by exact (subH_row rfl (by first | (dsimp only; first | rfl | (rw [take_succ_get hg, enc_snoc]; unfold hillAt; rw [zAt_eq hx50, g44]; rfl); done) | (first | rfl | (rw [take_succ_get hg, enc_snoc]; unfold hillAt; rw [zAt_eq hx50, g44]; rfl); done) | (dsimp only; done)) subH_nil)) (subH_same rfl (subH_same rfl subH_nil))))
              · try dsimp only
                first
                  | exact ⟨i + 1, rfl, by omega, by omega, hcl, m', by omega, by rw [hT, hillsG_none (by omega) (by rw [g44, zAt_eq hx50]; omega)]⟩
                  | exact ⟨topR A.ss i dip + 1, rfl, by omega, by omega, hgl, m', by omega, hgd⟩
              · try dsimp only
                omega
            · refine wp_skip' (to_k0 (fun _ _ h => h) (hK17 _ _ _ _ _ ?_))
              clear hK17
              refine wp_reg ?_
              refine ol_r (r_move rfl) rfl ?_
              refine ol_r (r_add rfl rfl (by omega)) rfl ?_
              refine ol_r (r_assign rfl) rfl ?_
              refine ol_nil (to_k0 (fun _ _ h => h) (hK14 ((_, _, _, _)) _ _ ?_ ?_ (sub_cons rfl (sub_cons rfl sub_nil)) (sub_cons rfl (sub_cons rfl (sub_cons rfl (sub_cons rfl (sub_cons rfl (sub_cons rfl sub_nil)))))) (by exact (subH_row rfl (by first | (dsimp only; first | rfl | (rw [take_succ_get hg, enc_snoc]; unfold hillAt; rw [zAt_eq hx50, g44]; rfl); done) | (first | rfl | (rw [take_succ_get hg, enc_snoc]; unfold hillAt; rw [zAt_eq hx50, g44]; rfl); done) | (dsimp only; done)) subH_nil)) (subH_same rfl (subH_same rfl subH_nil))))
              · try dsimp only
                first
                  | exact ⟨i + 1, rfl, by omega, by omega, hcl, m', by omega, by rw [hT, hillsG_none (by omega) (by rw [g44, zAt_eq hx50]; omega)]⟩
                  | exact ⟨topR A.ss i dip + 1, rfl, by omega, by omega, hgl, m', by omega, hgd⟩
              · try dsimp only
                omega
          · refine wp_exit' (to_k0 (fun _ _ h => h) (hK12 _ _ _ _ _ ?_))
            clear hK12
            refine wp_seq' fun K24 hK24 => ?_
            refine wp_reg ?_
            refine ol_r (r_move rfl) rfl ?_
            refine ol_r (r_assign rfl) rfl ?_
            refine ol_r (r_assign rfl) rfl ?_
            refine ol_nil (to_k0 (fun _ _ h => h) (hK24 _ _ _ _ _ ?_))
            clear hK24
            refine hQ.ret (rvs2 (rv_t rfl) (rv_t rfl)) (fun _ _ h => h) fun w hb hs hB hkd => ?_
            have h := hillsR_0 h0 hin
            have hlt := List.drop_eq_nil_iff.1 (hT.trans (hillsG_stop (by omega)))
            have hcn : cnt = (hillsG A.ss least dip A.ss.length 0).length := by omega
            refine ⟨_, _, _, by rw [h], hb, ?_⟩
            have h2 := hs.ok 10 _ rfl
            rw [List.take_of_length_le (by omega)] at h2
            rw [h]
            exact h2
theorem ref3_Hills (A : ActV) (least dip : Int) (w : World) (hA : A.Ok w.heap.size w) :
    Calls Try.prog 21 #[.agg #[.string A.name, .int .i64 A.sport, .int .i64 A.start, .slice A.sa A.sn A.sc, .slice A.la A.ln A.lc, .slice A.ta A.tn A.tc], .int .i64 least, .int .i64 dip] w fun e w' => ∃ b m k, e = .returned (.tuple #[.slice b m k, .int .i64 (hillsR A.d least dip).2]) ∧ Fresh encHill 49 w w' b m k (hillsR A.d least dip).1 := by
  have hsn := hA.s.len
  have hsf := hA.s.fit
  have hwl := wayL_len A.ss
  refine enterQ (N := 73) (C := fun _ => True) (H := []) (B := w.heap.size) (args := [_, _, _]) Try.func21 rfl rfl rfl (Nat.le_refl _) (Sat.nil _ _) fun Q hQ => ?_
  refine wp_seq' fun K1 hK1 => ?_
  refine wp_reg ?_
  refine ol_box 3 rfl rfl rfl fun b3 => ?_
  refine ol_r (r_assign rfl) rfl ?_
  refine ol_r (r_assign rfl) rfl ?_
  refine ol_nil (to_k0 (fun _ _ h => h) (hK1 _ _ _ _ _ ?_))
  clear hK1
  refine wp_seq' fun K2 hK2 => ?_
  refine wp_seq' fun K3 hK3 => ?_
  refine wp_reg ?_
  refine ol_r (r_lda (id := 3) (n := 6) rfl rfl rfl ag26) rfl ?_
  refine ol_call rfl rfl cb40 rfl (fun w1 hb1 hs1 hB1 => Calls.mono (ref2_Check A _ (hA.at hb1 hB1)) ?_)
  rintro e w2 ⟨rfl, hb2⟩
  refine After.below rfl hb1 hs1 hB1 hb2 ?_
  clear hb2 hB1 hs1 hb1 w2 w1
  refine ol_r (r_assign rfl) rfl ?_
  refine ol_nil (to_k0 (fun _ _ h => h) (hK3 _ _ _ _ _ ?_))
  clear hK3
  refine wp_seq' fun K4 hK4 => ?_
  refine wp_reg ?_
  refine ol_r (r_move rfl) rfl ?_
  refine ol_r (r_neq rfl rfl) rfl ?_
  refine ol_nil (to_k0 (fun _ _ h => h) (hK4 _ _ _ _ _ ?_))
  clear hK4
  first | refine wp_condD rfl (fun hc17 => ?_) (fun hc17 => ?_) | refine wp_condN rfl (fun hc17 => ?_) (fun hc17 => ?_) | refine wp_condNB rfl (fun hc17 => ?_) (fun hc17 => ?_) | refine wp_cond' rfl (fun hc17 => ?_) (fun hc17 => ?_)
  · refine wp_seq' fun K5 hK5 => ?_
    refine wp_reg ?_
    refine ol_r (r_move rfl) rfl ?_
    refine ol_r (r_assign rfl) rfl ?_
    refine ol_r (r_assign rfl) rfl ?_
    refine ol_nil (to_k0 (fun _ _ h => h) (hK5 _ _ _ _ _ ?_))
    clear hK5
    refine hQ.ret (rvs2 (rv_t rfl) (rv_t rfl)) (fun _ _ h => h) fun w hb hs hB hkd => ?_
    have h := hillsR_e (l := least) (d := dip) hc17
    exact ⟨none, 0, 0, by rw [h], by rw [h]; exact Fresh.nil hb⟩
  · refine wp_skip' (to_k0 (fun _ _ h => h) (hK2 _ _ _ _ _ ?_))
    clear hK2
    refine wp_seq' fun K6 hK6 => ?_
    refine wp_seq' fun K7 hK7 => ?_
    refine wp_reg ?_
    refine ol_r (r_move rfl) rfl ?_
    refine ol_call rfl rfl cb41 rfl (fun w1 hb1 hs1 hB1 => Calls.mono (ref3_outside _ _ _ _) ?_)
    rintro e w2 ⟨rfl, hb2⟩
    refine After.below rfl hb1 hs1 hB1 hb2 ?_
    clear hb2 hB1 hs1 hb1 w2 w1
    refine ol_r (r_move rfl) rfl ?_
    refine ol_split (d := 21) rfl (fun hs21 => ?_) (fun hs21 => ?_)
    · have phs21 := hs21; try simp only [decide_eq_true_eq, decide_eq_false_iff_not, Bool.not_eq_true', Bool.not_eq_false', Bool.not_true, Bool.not_false] at phs21
      refine ol_s rfl rfl hs21 rfl ?_
      refine ol_s rfl rfl hs21 rfl ?_
      refine ol_r (r_pickT rfl hs21 rfl) rfl ?_
      refine ol_nil (to_k0 (fun _ _ h => h) (hK7 _ _ _ _ _ ?_))
      clear hK7
      refine wp_condT rfl ?_
      refine wp_seq' fun K8 hK8 => ?_
      refine wp_reg ?_
      refine ol_r (r_assign rfl) rfl ?_
      refine ol_r (r_assign rfl) rfl ?_
      refine ol_nil (to_k0 (fun _ _ h => h) (hK8 _ _ _ _ _ ?_))
      clear hK8
      refine hQ.ret (rvs2 (rv_t rfl) (rv_t rfl)) (fun _ _ h => h) fun w hb hs hB hkd => ?_
      have h := hillsR_9 (Decidable.not_not.1 hc17) (l := least) (d := dip) (fun h => by have := inB_iff.2 h.1; rw [this] at phs21; cases phs21)
      exact ⟨none, 0, 0, by rw [h], by rw [h]; exact Fresh.nil hb⟩
    · have phs21 := hs21; try simp only [decide_eq_true_eq, decide_eq_false_iff_not, Bool.not_eq_true', Bool.not_eq_false', Bool.not_true, Bool.not_false] at phs21
      refine ol_g rfl rfl hs21 ?_
      refine ol_r (r_move rfl) rfl ?_
      refine ol_g rfl rfl hs21 ?_
      refine ol_call rfl rfl cb41 rfl (fun w1 hb1 hs1 hB1 => Calls.mono (ref3_outside _ _ _ _) ?_)
      rintro e w2 ⟨rfl, hb2⟩
      refine After.below rfl hb1 hs1 hB1 hb2 ?_
      clear hb2 hB1 hs1 hb1 w2 w1
      refine ol_r (r_pickF rfl hs21 rfl) rfl ?_
      refine ol_nil (to_k0 (fun _ _ h => h) (hK7 _ _ _ _ _ ?_))
      clear hK7
      first | refine wp_condD rfl (fun hc24 => ?_) (fun hc24 => ?_) | refine wp_condN rfl (fun hc24 => ?_) (fun hc24 => ?_) | refine wp_condNB rfl (fun hc24 => ?_) (fun hc24 => ?_) | refine wp_cond' rfl (fun hc24 => ?_) (fun hc24 => ?_)
      · refine wp_seq' fun K9 hK9 => ?_
        refine wp_reg ?_
        refine ol_r (r_assign rfl) rfl ?_
        refine ol_r (r_assign rfl) rfl ?_
        refine ol_nil (to_k0 (fun _ _ h => h) (hK9 _ _ _ _ _ ?_))
        clear hK9
        refine hQ.ret (rvs2 (rv_t rfl) (rv_t rfl)) (fun _ _ h => h) fun w hb hs hB hkd => ?_
        have h := hillsR_9 (Decidable.not_not.1 hc17) (l := least) (d := dip) (fun h => by have := inB_iff.2 h.2; rw [this] at hc24; cases hc24)
        exact ⟨none, 0, 0, by rw [h], by rw [h]; exact Fresh.nil hb⟩
      · refine wp_skip' (to_k0 (fun _ _ h => h) (hK6 _ _ _ _ _ ?_))
        clear hK6
        refine wp_seq' fun K10 hK10 => ?_
        refine wp_reg ?_
        refine ol_nilrow 9 49 4 ?_
        refine ol_r (r_assign rfl) rfl ?_
        refine ol_nil (to_k0 (fun _ _ h => h) (hK10 _ _ _ _ _ ?_))
        clear hK10
        refine wp_seq' fun K11 hK11 => ?_
        refine wp_reg ?_
        have h0 : chkA A.d = 0 := Decidable.not_not.1 hc17
        have hok : SmpOk A.start A.ss := (goodA h0).smp
        have hl20 := hok.len
        have hin : (1 ≤ least ∧ least ≤ 200000) ∧ (0 ≤ dip ∧ dip ≤ 200000) := ⟨inB_iff.1 (by simpa using phs21), inB_iff.1 (by simpa using hc24)⟩
        have hz : ∀ x ∈ A.ss, -100000 ≤ x.z ∧ x.z ≤ 100000 := fun x hx => hok.hgt hx
        refine ol_r (r_lda (id := 3) (n := 6) rfl rfl rfl ag26) rfl ?_
        refine ol_call rfl rfl cb49 rfl (fun w1 hb1 hs1 hB1 => Calls.mono (ref3_ways A _ (hA.at hb1 hB1) hok) ?_)
        rintro e w2 ⟨a26, n26, c26, rfl, hf26⟩
        refine After.fresh (id := 26) rfl hb1 hs1 hB1 hf26 ?_
        have hl26 := hf26.len; clear hf26 hB1 hs1 hb1 w2 w1
        refine ol_r (r_assign rfl) rfl ?_
        refine ol_nil (to_k0 (fun _ _ h => h) (hK11 _ _ _ _ _ ?_))
        clear hK11
        refine wp_seq' fun K12 hK12 => ?_
        refine wp_seq' fun K13 hK13 => ?_
        refine wp_reg ?_
        refine ol_r (r_assign rfl) rfl ?_
        refine ol_nil (to_k0 (fun _ _ h => h) (hK13 _ _ _ _ _ ?_))
        clear hK13
        refine wp_block' ?_
        apply wp_loopM (σ := Int × Nat × Option Addr × Nat) (fun s => ∃ i : Nat, s.1 = i ∧ i ≤ A.ss.length ∧ s.2.1 ≤ i ∧ s.2.1 ≤ (hillsG A.ss least dip A.ss.length 0).length ∧ ∃ m, A.ss.length ≤ m + i ∧ (hillsG A.ss least dip A.ss.length 0).drop s.2.1 = hillsG A.ss least dip m i) (fun s => [(11, .int .i64 s.1), (9, .slice s.2.2.1 s.2.1 s.2.2.2)]) [(1, _), (2, _), (3, _), (6, _), (7, _), (10, _)] (fun s => [(9, .row s.2.2.1 s.2.1 s.2.2.2 (encHill.enc ((hillsG A.ss least dip A.ss.length 0).take s.2.1)) 49 4)]) [(3, _), (26, _)] (fun s => A.ss.length - s.1.toNat) ((0, 0, none, 0))
        · try dsimp only
          exact ⟨0, rfl, Nat.zero_le _, Nat.le_refl _, Nat.zero_le _, _, by omega, rfl⟩
        · exact (sub_cons rfl (sub_cons rfl sub_nil))
        · exact (sub_cons rfl (sub_cons rfl (sub_cons rfl (sub_cons rfl (sub_cons rfl (sub_cons rfl sub_nil))))))
        · exact (subH_row rfl (by first | (dsimp only; rfl; done) | (rfl; done) | (dsimp only; done)) subH_nil)
        · exact (subH_same rfl (subH_same rfl subH_nil))
        · rintro ⟨iI, cnt, oa, oc⟩ ⟨i, hI, hi, hc, hcl, m, hm, hT⟩
          dsimp only at hI hi hc hcl hm hT ⊢
          subst hI
          intro K14 hK14
          refine wp_seq' fun K15 hK15 => ?_
          refine wp_seq' fun K16 hK16 => ?_
          refine wp_reg ?_
          refine ol_r (r_move rfl) rfl ?_
          refine ol_r (r_fa (o' := 3) rfl fl26_3 rfl) rfl ?_
          refine ol_r (r_ld (id := 3) rfl rfl rfl sc22) rfl ?_
          refine ol_r (r_len rfl sl22) rfl ?_
          refine ol_r (r_lss rfl rfl) rfl ?_
          refine ol_nil (to_k0 (fun _ _ h => h) (hK16 _ _ _ _ _ ?_))
          clear hK16
          first | refine wp_condD rfl (fun hc31 => ?_) (fun hc31 => ?_) | refine wp_condN rfl (fun hc31 => ?_) (fun hc31 => ?_) | refine wp_condNB rfl (fun hc31 => ?_) (fun hc31 => ?_) | refine wp_cond' rfl (fun hc31 => ?_) (fun hc31 => ?_)
          · refine wp_skip' (to_k0 (fun _ _ h => h) (hK15 _ _ _ _ _ ?_))
            clear hK15
            refine wp_seq' fun K17 hK17 => ?_
            refine wp_block' ?_
            refine wp_seq' fun K18 hK18 => ?_
            refine wp_reg ?_
            refine ol_r (r_fa (o' := 3) rfl fl26_3 rfl) rfl ?_
            refine ol_r (r_ld (id := 3) rfl rfl rfl sc22) rfl ?_
            refine ol_r (r_move rfl) rfl ?_
            refine ol_r (r_move rfl) rfl ?_
            refine ol_call rfl rfl cb51 rfl (fun w1 hb1 hs1 hB1 => Calls.mono (ref3_reach _ _ _ A.ss i dip _ (hA.s.at hb1 hB1) (by omega) hz) ?_)
            rintro e w2 ⟨rfl, hb2⟩
            refine After.below rfl hb1 hs1 hB1 hb2 ?_
            clear hb2 hB1 hs1 hb1 w2 w1
            refine ol_r (r_assign rfl) rfl ?_
            refine ol_nil (to_k0 (fun _ _ h => h) (hK18 _ _ _ _ _ ?_))
            clear hK18
            refine wp_seq' fun K19 hK19 => ?_
            refine wp_regq (by kernel_rfl) (by kernel_rfl) ?_
            refine ql_r (r_fa (o' := 3) rfl fl26_3 rfl) rfl ?_
            refine ql_r (r_ld (id := 3) rfl rfl rfl sc22) rfl ?_
            refine ql_r (r_move rfl) rfl ?_
            have ht := topR_bd (dip := dip) (f := i) (ss := A.ss) (by omega)
            refine ql_ixr hA.s rfl rfl sl22 (by omega) rfl fun x42 hx42 => ?_
            try simp only [Int.toNat_natCast] at hx42
            refine ql_r (r_faw rfl (ix_some hA.s (by omega)) fl36_3) rfl ?_
            refine ql_r (r_ldw rfl (fun w1 hb1 hs1 hB1 => Rd.loadsF (o := 3) hA.s sc3 hx42 hb1 rfl)) rfl ?_
            refine ql_r (r_fa (o' := 3) rfl fl26_3 rfl) rfl ?_
            refine ql_r (r_ld (id := 3) rfl rfl rfl sc22) rfl ?_
            refine ql_r (r_move rfl) rfl ?_
            refine ql_ixr hA.s rfl rfl sl22 (by omega) rfl fun x48 hx48 => ?_
            try simp only [Int.toNat_natCast] at hx48
            refine ql_r (r_faw rfl (ix_some hA.s (by omega)) fl36_3) rfl ?_
            refine ql_r (r_ldw rfl (fun w1 hb1 hs1 hB1 => Rd.loadsF (o := 3) hA.s sc3 hx48 hb1 rfl)) rfl ?_
            have z1 := hz _ (List.mem_of_getElem? hx42)
            have z2 := hz _ (List.mem_of_getElem? hx48)
            have g44 := zAt_eq hx42
            obtain ⟨m', rfl⟩ : ∃ m', m = m' + 1 := ⟨m - 1, by omega⟩
            refine ql_r (r_sub rfl rfl (by omega)) rfl ?_
            refine ql_r (r_assign rfl) rfl ?_
            refine ql_nil (to_k0 (fun _ _ h => h) (hK19 _ _ _ _ _ ?_))
            clear hK19
            refine wp_seq' fun K20 hK20 => ?_
            refine wp_reg ?_
            refine ol_r (r_move rfl) rfl ?_
            refine ol_r (r_move rfl) rfl ?_
            refine ol_r (r_geq rfl rfl) rfl ?_
            refine ol_nil (to_k0 (fun _ _ h => h) (hK20 _ _ _ _ _ ?_))
            clear hK20
            first | refine wp_condD rfl (fun hc54 => ?_) (fun hc54 => ?_) | refine wp_condN rfl (fun hc54 => ?_) (fun hc54 => ?_) | refine wp_condNB rfl (fun hc54 => ?_) (fun hc54 => ?_) | refine wp_cond' rfl (fun hc54 => ?_) (fun hc54 => ?_)
            · refine wp_seq' fun K21 hK21 => ?_
              refine wp_rega [(999, [(3, _), (26, _)]), (15, [(9, _)])] (by kernel_rfl) ⟨.inr (subH_same rfl (subH_same rfl subH_nil)), ⟨.inr (subH_same rfl subH_nil), trivial⟩⟩ ?_
              refine aq_r 0 999 rfl (by kernel_rfl) (by kernel_rfl) (by kernel_rfl) (.head _) (by kernel_rfl) (by kernel_rfl) rfl (r_move rfl) ?_
              refine aq_r 1 999 rfl (by kernel_rfl) (by kernel_rfl) (by kernel_rfl) (.head _) (by kernel_rfl) (by kernel_rfl) rfl (r_move rfl) ?_
              refine aq_r 2 999 rfl (by kernel_rfl) (by kernel_rfl) (by kernel_rfl) (.head _) (by kernel_rfl) (by kernel_rfl) rfl (r_move rfl) ?_
              refine aq_r 3 999 rfl (by kernel_rfl) (by kernel_rfl) (by kernel_rfl) (.head _) (by kernel_rfl) (by kernel_rfl) rfl (r_move rfl) ?_
              refine aq_r 4 999 rfl (by kernel_rfl) (by kernel_rfl) (by kernel_rfl) (.head _) (by kernel_rfl) (by kernel_rfl) rfl (r_move rfl) ?_
              refine aq_r 5 999 rfl (by kernel_rfl) (by kernel_rfl) (by kernel_rfl) (.head _) (by kernel_rfl) (by kernel_rfl) rfl (r_move rfl) ?_
              refine aq_ixo 6 999 rfl (by kernel_rfl) (by kernel_rfl) (by kernel_rfl) (.head _) (by kernel_rfl) (by kernel_rfl) rfl (id := 26) encI _ rfl rfl rfl rfl sl34 (by omega) (by omega) fun x61 hx61 => ?_
              try simp only [Int.toNat_natCast] at hx61
              try simp only [Int.toNat_natCast] at hx61
              refine aq_r 7 999 rfl (by kernel_rfl) (by kernel_rfl) (by kernel_rfl) (.head _) (by kernel_rfl) (by kernel_rfl) rfl (r_ldw rfl (fun w1 hb1 hs1 hB1 => show Loads _ _ _ _ (.int .i64 x61) from ld_own (id := 26) hs1 rfl rfl ty3 hx61)) ?_
              refine aq_r 8 999 rfl (by kernel_rfl) (by kernel_rfl) (by kernel_rfl) (.head _) (by kernel_rfl) (by kernel_rfl) rfl (r_move rfl) ?_
              refine aq_r 9 999 rfl (by kernel_rfl) (by kernel_rfl) (by kernel_rfl) (.head _) (by kernel_rfl) (by kernel_rfl) rfl (r_move rfl) ?_
              refine aq_ixo 10 999 rfl (by kernel_rfl) (by kernel_rfl) (by kernel_rfl) (.head _) (by kernel_rfl) (by kernel_rfl) rfl (id := 26) encI _ rfl rfl rfl rfl sl34 (by omega) (by omega) fun x65 hx65 => ?_
              try simp only [Int.toNat_natCast] at hx65
              try simp only [Int.toNat_natCast] at hx65
              refine aq_r 11 999 rfl (by kernel_rfl) (by kernel_rfl) (by kernel_rfl) (.head _) (by kernel_rfl) (by kernel_rfl) rfl (r_ldw rfl (fun w1 hb1 hs1 hB1 => show Loads _ _ _ _ (.int .i64 x65) from ld_own (id := 26) hs1 rfl rfl ty3 hx65)) ?_
              have h61 := runW_get hx61
              have h65 := runW_get hx65
              subst h61
              subst h65
              have b63 := wayN_bd hok (topR A.ss i dip)
              have b67 := wayN_bd hok i
              have hH := hT
              rw [hillsG_hill (by omega) (by rw [g44, zAt_eq hx48]; omega)] at hH
              have hg := drop_get hH
              have hgd := drop_next hH
              have hgl := drop_len hH
              refine aq_r 12 999 rfl (by kernel_rfl) (by kernel_rfl) (by kernel_rfl) (.head _) (by kernel_rfl) (by kernel_rfl) rfl (r_sub rfl rfl (by omega)) ?_
              refine aq_r 13 999 rfl (by kernel_rfl) (by kernel_rfl) (by kernel_rfl) (.head _) (by kernel_rfl) (by kernel_rfl) rfl (r_build rfl (fun _ => bd49_0_1_2_3 _ _ _ _ _)) ?_
              refine aq_one (i := 14) (by kernel_rfl) rfl fun K22 hK22 => ?_
              refine ol_bs1 69 rfl rfl rw44 rfl rfl rfl fun a69 => ?_
              refine ol_nil (to_k0 (fun _ _ h => h) (hK22 _ _ ⟨.inr (by repeat' first | exact subH_nil | refine subH_same rfl ?_ | (refine subH_blk rfl (by repeat' first | exact sub_nil | refine sub_cons rfl ?_) ?_)), ⟨.inr (by repeat' first | exact subH_nil | refine subH_same rfl ?_ | (refine subH_blk rfl (by repeat' first | exact sub_nil | refine sub_cons rfl ?_) ?_)), trivial⟩⟩ ?_))
              clear hK22
              refine aq_one (i := 15) (by kernel_rfl) rfl fun K23 hK23 => ?_
              refine ol_append1 (id := 9) (id2 := 69) rfl rfl rfl rfl rfl rw44 (by omega) rfl fun a70 c70 => ?_
              refine ol_nil (to_k0 (fun _ _ h => h) (hK23 _ _ ⟨.inr (by repeat' first | exact subH_nil | refine subH_same rfl ?_ | (refine subH_blk rfl (by repeat' first | exact sub_nil | refine sub_cons rfl ?_) ?_)), ⟨.inl (by kernel_rfl), trivial⟩⟩ ?_))
              clear hK23
              refine aq_r 16 999 rfl (by kernel_rfl) (by kernel_rfl) (by kernel_rfl) (.head _) (by kernel_rfl) (by kernel_rfl) rfl (r_assign rfl) ?_
              refine aq_done (by kernel_rfl) ?_
              refine (to_k0 (fun _ _ h => h) (hK21 _ _ _ _ _ ?_))
              clear hK21
              refine wp_reg ?_
              refine ol_r (r_move rfl) rfl ?_
              refine ol_r (r_assign rfl) rfl ?_
              refine ol_nil (to_k0 (fun _ _ h => h) (hK17 _ _ _ _ _ ?_))
              clear hK17
              refine wp_reg ?_
              refine ol_r (r_move rfl) rfl ?_
              refine ol_r (r_add rfl rfl (by omega)) rfl ?_
              refine ol_r (r_assign rfl) rfl ?_
              refine ol_nil (to_k0 (fun _ _ h => h) (hK14 ((_, _, _, _)) _ _ ?_ ?_ (sub_cons rfl (sub_cons rfl sub_nil)) (sub_cons rfl (sub_cons rfl (sub_cons rfl (sub_cons rfl (sub_cons rfl (sub_cons rfl sub_nil)))))) (by exact (subH_row rfl (by first | (dsimp only; first | rfl | (rw [take_succ_get hg, enc_snoc]; unfold hillAt; rw [zAt_eq hx48, g44]; rfl); done) | (first | rfl | (rw [take_succ_get hg, enc_snoc]; unfold hillAt; rw [zAt_eq hx48, g44]; rfl); done) | (dsimp only; done)) subH_nil)) (subH_same rfl (subH_same rfl subH_nil))))
              · try dsimp only
                first
                  | exact ⟨i + 1, rfl, by omega, by omega, hcl, m', by omega, by rw [hT, hillsG_none (by omega) (by rw [g44, zAt_eq hx48]; omega)]⟩
                  | exact ⟨topR A.ss i dip + 1, rfl, by omega, by omega, hgl, m', by omega, hgd⟩
              · try dsimp only
                omega
            · refine wp_skip' (to_k0 (fun _ _ h => h) (hK17 _ _ _ _ _ ?_))
              clear hK17
              refine wp_reg ?_
              refine ol_r (r_move rfl) rfl ?_
              refine ol_r (r_add rfl rfl (by omega)) rfl ?_
              refine ol_r (r_assign rfl) rfl ?_
              refine ol_nil (to_k0 (fun _ _ h => h) (hK14 ((_, _, _, _)) _ _ ?_ ?_ (sub_cons rfl (sub_cons rfl sub_nil)) (sub_cons rfl (sub_cons rfl (sub_cons rfl (sub_cons rfl (sub_cons rfl (sub_cons rfl sub_nil)))))) (by exact (subH_row rfl (by first | (dsimp only; first | rfl | (rw [take_succ_get hg, enc_snoc]; unfold hillAt; rw [zAt_eq hx48, g44]; rfl); done) | (first | rfl | (rw [take_succ_get hg, enc_snoc]; unfold hillAt; rw [zAt_eq hx48, g44]; rfl); done) | (dsimp only; done)) subH_nil)) (subH_same rfl (subH_same rfl subH_nil))))
              · try dsimp only
                first
                  | exact ⟨i + 1, rfl, by omega, by omega, hcl, m', by omega, by rw [hT, hillsG_none (by omega) (by rw [g44, zAt_eq hx48]; omega)]⟩
                  | exact ⟨topR A.ss i dip + 1, rfl, by omega, by omega, hgl, m', by omega, hgd⟩
              · try dsimp only
                omega
          · refine wp_exit' (to_k0 (fun _ _ h => h) (hK12 _ _ _ _ _ ?_))
            clear hK12
            refine wp_seq' fun K24 hK24 => ?_
            refine wp_reg ?_
            refine ol_r (r_move rfl) rfl ?_
            refine ol_r (r_assign rfl) rfl ?_
            refine ol_r (r_assign rfl) rfl ?_
            refine ol_nil (to_k0 (fun _ _ h => h) (hK24 _ _ _ _ _ ?_))
            clear hK24
            refine hQ.ret (rvs2 (rv_t rfl) (rv_t rfl)) (fun _ _ h => h) fun w hb hs hB hkd => ?_
            have h := hillsR_0 h0 hin
            have hlt := List.drop_eq_nil_iff.1 (hT.trans (hillsG_stop (by omega)))
            have hcn : cnt = (hillsG A.ss least dip A.ss.length 0).length := by omega
            refine ⟨_, _, _, by rw [h], hb, ?_⟩
            have h2 := hs.ok 9 _ rfl
            rw [List.take_of_length_le (by omega)] at h2
            rw [h]
            exact h2
theorem law_hills (A : ActV) (least dip : Int) (w : World) (hA : A.Ok w.heap.size w) :
    Calls Try.prog 6 #[.agg #[.string A.name, .int .i64 A.sport, .int .i64 A.start, .slice A.sa A.sn A.sc, .slice A.la A.ln A.lc, .slice A.ta A.tn A.tc], .int .i64 least, .int .i64 dip] w fun e w' => e = .returned (.bool true) ∧ Below w.heap.size w w' := by
  refine enterQ (N := 36) (C := fun _ => True) (H := []) (B := w.heap.size) (args := [_, _, _]) Try.func6 rfl rfl rfl (Nat.le_refl _) (Sat.nil _ _) fun Q hQ => ?_
  refine wp_seq' fun K1 hK1 => ?_
  refine wp_reg ?_
  refine ol_box 3 rfl rfl rfl fun b3 => ?_
  refine ol_r (r_assign rfl) rfl ?_
  refine ol_nil (to_k0 (fun _ _ h => h) (hK1 _ _ _ _ _ ?_))
  clear hK1
  refine wp_seq' fun K2 hK2 => ?_
  refine wp_reg ?_
  refine ol_r (r_lda (id := 3) (n := 6) rfl rfl rfl ag26) rfl ?_
  refine ol_r (r_move rfl) rfl ?_
  refine ol_r (r_move rfl) rfl ?_
  refine ol_call rfl rfl cb20 rfl (fun w1 hb1 hs1 hB1 => Calls.mono (track_Hills A least dip _ (hA.at hb1 hB1)) ?_)
  rintro e w2 ⟨a15, n15, c15, rfl, hf15⟩
  refine After.fresh (id := 15) rfl hb1 hs1 hB1 hf15 ?_
  have hl15 := hf15.len; clear hf15 hB1 hs1 hb1 w2 w1
  refine ol_r (r_move rfl) rfl ?_
  refine ol_r (r_extract rfl rfl) rfl ?_
  refine ol_r (r_extract rfl rfl) rfl ?_
  refine ol_r (r_assign rfl) rfl ?_
  refine ol_r (r_assign rfl) rfl ?_
  refine ol_nil (to_k0 (fun _ _ h => h) (hK2 _ _ _ _ _ ?_))
  clear hK2
  refine wp_seq' fun K3 hK3 => ?_
  refine wp_reg ?_
  refine ol_r (r_lda (id := 3) (n := 6) rfl rfl rfl ag26) rfl ?_
  refine ol_r (r_move rfl) rfl ?_
  refine ol_r (r_move rfl) rfl ?_
  refine ol_call rfl rfl cb21 rfl (fun w1 hb1 hs1 hB1 => Calls.mono (ref3_Hills A least dip _ (hA.at hb1 hB1)) ?_)
  rintro e w2 ⟨a22, n22, c22, rfl, hf22⟩
  refine After.fresh (id := 22) rfl hb1 hs1 hB1 hf22 ?_
  have hl22 := hf22.len; clear hf22 hB1 hs1 hb1 w2 w1
  refine ol_r (r_move rfl) rfl ?_
  refine ol_r (r_extract rfl rfl) rfl ?_
  refine ol_r (r_extract rfl rfl) rfl ?_
  refine ol_r (r_assign rfl) rfl ?_
  refine ol_r (r_assign rfl) rfl ?_
  refine ol_nil (to_k0 (fun _ _ h => h) (hK3 _ _ _ _ _ ?_))
  clear hK3
  refine wp_seq' fun K4 hK4 => ?_
  refine wp_reg ?_
  refine ol_r (r_move rfl) rfl ?_
  refine ol_r (r_move rfl) rfl ?_
  refine ol_call rfl rfl cb22 rfl (fun w1 hb1 hs1 hB1 => ?_)
  have hnn : n22 = n15 := by rw [← hl22, ← hl15]
  subst hnn
  refine Calls.mono (equal_hill_same _ _ _ _ _ (hillsR A.d least dip).1 _ (Sat.rd hs1 (id := 15) rfl rfl) (Sat.rd hs1 (id := 22) rfl rfl)) ?_
  rintro e w2 ⟨rfl, hb2⟩
  refine After.below rfl hb1 hs1 hB1 hb2 ?_
  clear hb2 hB1 hs1 hb1 w2 w1
  refine ol_r (r_move rfl) rfl ?_
  refine ol_split (d := 28) rfl (fun hs28 => ?_) (fun hs28 => ?_)
  · have phs28 := hs28; try simp only [decide_eq_true_eq, decide_eq_false_iff_not, Bool.not_eq_true', Bool.not_eq_false', Bool.not_true, Bool.not_false] at phs28
    refine ol_g rfl rfl hs28 ?_
    refine ol_r (r_move rfl) rfl ?_
    refine ol_g rfl rfl hs28 ?_
    refine ol_r (r_move rfl) rfl ?_
    refine ol_g rfl rfl hs28 ?_
    refine ol_r (r_eql rfl rfl) rfl ?_
    refine ol_r (r_pickT rfl hs28 rfl) rfl ?_
    refine ol_r (r_move rfl) rfl ?_
    refine ol_split (d := 33) rfl (fun hs33 => ?_) (fun hs33 => ?_)
    · have phs33 := hs33; try simp only [decide_eq_true_eq, decide_eq_false_iff_not, Bool.not_eq_true', Bool.not_eq_false', Bool.not_true, Bool.not_false] at phs33
      refine ol_g rfl rfl hs33 ?_
      refine ol_call rfl rfl cb14 rfl (fun w1 hb1 hs1 hB1 => Calls.mono (law3_told _) ?_)
      rintro e w2 ⟨rfl, hb2⟩
      refine After.below rfl hb1 hs1 hB1 hb2 ?_
      clear hb2 hB1 hs1 hb1 w2 w1
      refine ol_r (r_pickT rfl hs33 rfl) rfl ?_
      refine ol_r (r_assign rfl) rfl ?_
      refine ol_nil (to_k0 (fun _ _ h => h) (hK4 _ _ _ _ _ ?_))
      clear hK4
      refine hQ.ret (rvs1 (rv_t rfl)) (fun _ _ h => h) fun w hb hs hB hkd => ?_
      first
        | exact ⟨rfl, hb⟩
        | (exfalso; simp at phs33; done)
        | (exfalso; simp at phs28; done)
    · have phs33 := hs33; try simp only [decide_eq_true_eq, decide_eq_false_iff_not, Bool.not_eq_true', Bool.not_eq_false', Bool.not_true, Bool.not_false] at phs33
      refine ol_s rfl rfl hs33 rfl ?_
      refine ol_r (r_pickF rfl hs33 rfl) rfl ?_
      refine ol_r (r_assign rfl) rfl ?_
      refine ol_nil (to_k0 (fun _ _ h => h) (hK4 _ _ _ _ _ ?_))
      clear hK4
      refine hQ.ret (rvs1 (rv_t rfl)) (fun _ _ h => h) fun w hb hs hB hkd => ?_
      first
        | exact ⟨rfl, hb⟩
        | (exfalso; simp at phs33; done)
        | (exfalso; simp at phs28; done)
  · have phs28 := hs28; try simp only [decide_eq_true_eq, decide_eq_false_iff_not, Bool.not_eq_true', Bool.not_eq_false', Bool.not_true, Bool.not_false] at phs28
    refine ol_s rfl rfl hs28 rfl ?_
    refine ol_s rfl rfl hs28 rfl ?_
    refine ol_s rfl rfl hs28 rfl ?_
    refine ol_r (r_pickF rfl hs28 rfl) rfl ?_
    refine ol_r (r_move rfl) rfl ?_
    refine ol_s rfl rfl rfl rfl ?_
    refine ol_r (r_pickF rfl rfl rfl) rfl ?_
    refine ol_r (r_assign rfl) rfl ?_
    refine ol_nil (to_k0 (fun _ _ h => h) (hK4 _ _ _ _ _ ?_))
    clear hK4
    refine hQ.ret (rvs1 (rv_t rfl)) (fun _ _ h => h) fun w hb hs hB hkd => ?_
    first
      | exact ⟨rfl, hb⟩
      | (exfalso; simp at phs33; done)
      | (exfalso; simp at phs28; done)
end Go.Proofs.Ytlbcefnbjdpljaa
