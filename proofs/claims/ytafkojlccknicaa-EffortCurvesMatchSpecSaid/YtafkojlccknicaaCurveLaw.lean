/-
  The walk of EffortCurvesMatchSpec.
-/
import Derived.Test.YtafkojlccknicaaCurve2
import Derived.Test.YtafkojlccknicaaHard
namespace Go.Proofs.Ytafkojlccknicaa
open Go Go.RowKit Hx
set_option linter.unusedVariables false
set_option linter.unusedSimpArgs false
set_option maxRecDepth 8000

theorem equal_best_same (a b : Option Addr) (n c1 c2 : Nat) (xs : List BestR) (w : World) (hx : Rd encBest w.heap.size w a n c1 xs) (hy : Rd encBest w.heap.size w b n c2 xs) :
    Calls Try.prog 35 #[.slice a n c1, .slice b n c2] w fun e w' => e = .returned (.bool true) ∧ Below w.heap.size w w' := by
  have hn := hx.len
  have hf := hx.fit
  refine enterQ (N := 26) (H := []) (B := w.heap.size) (args := [_, _]) Try.func35 rfl rfl rfl (Nat.le_refl _) (Sat.nil _ _) fun Q hQ => ?_
  refine wp_seq' fun K1 hK1 => ?_
  refine wp_reg ?_
  refine ol_r (r_assign rfl) rfl ?_
  refine ol_nil (to_k0 (fun _ _ h => h) (hK1 _ _ ?_))
  clear hK1
  refine wp_seq' fun K2 hK2 => ?_
  refine wp_seq' fun K3 hK3 => ?_
  refine wp_reg ?_
  refine ol_r (r_move rfl) rfl ?_
  refine ol_r (r_len rfl sl38) rfl ?_
  refine ol_r (r_move rfl) rfl ?_
  refine ol_r (r_len rfl sl38) rfl ?_
  refine ol_r (r_neq rfl rfl) rfl ?_
  refine ol_nil (to_k0 (fun _ _ h => h) (hK3 _ _ ?_))
  clear hK3
  first | refine wp_condD rfl (fun hc10 => ?_) (fun hc10 => ?_) | refine wp_condN rfl (fun hc10 => ?_) (fun hc10 => ?_) | refine wp_condNB rfl (fun hc10 => ?_) (fun hc10 => ?_) | refine wp_cond' rfl (fun hc10 => ?_) (fun hc10 => ?_)
  · refine wp_seq' fun K4 hK4 => ?_
    refine wp_reg ?_
    refine ol_r (r_assign rfl) rfl ?_
    refine ol_nil (to_k0 (fun _ _ h => h) (hK4 _ _ ?_))
    clear hK4
    refine hQ.ret (rvs1 (rv_t rfl)) (fun _ _ h => h) fun w hb hs hB => ?_
    first
      | exact ⟨rfl, hb⟩
      | (exfalso; simp_all; done)
      | (exfalso; simp_all [eqs, eqV, encBest]; done)
  · refine wp_skip' (to_k0 (fun _ _ h => h) (hK2 _ _ ?_))
    clear hK2
    refine wp_seq' fun K5 hK5 => ?_
    refine wp_seq' fun K6 hK6 => ?_
    refine wp_reg ?_
    refine ol_r (r_move rfl) rfl ?_
    refine ol_r (r_len rfl sl38) rfl ?_
    refine ol_r (r_move rfl) rfl ?_
    refine ol_nil (to_k0 (fun _ _ h => h) (hK6 _ _ ?_))
    clear hK6
    refine wp_block' ?_
    apply wp_loopM (σ := Nat) (fun s => s ≤ n) (fun s => [(13, .int .i64 s)]) [(0, _), (1, _), (12, _)] (fun s => []) [] (fun s => n - s) (0)
    · try dsimp only
      simp
    · exact (sub_cons rfl sub_nil)
    · exact (sub_cons rfl (sub_cons rfl (sub_cons rfl sub_nil)))
    · exact subH_nil
    · exact subH_nil
    · intro k hk
      intro K7 hK7
      refine wp_seq' fun K8 hK8 => ?_
      refine wp_reg ?_
      refine ol_r (r_lss rfl rfl) rfl ?_
      refine ol_nil (to_k0 (fun _ _ h => h) (hK8 _ _ ?_))
      clear hK8
      refine wp_seq' fun K9 hK9 => ?_
      first | refine wp_condD rfl (fun hc14 => ?_) (fun hc14 => ?_) | refine wp_condN rfl (fun hc14 => ?_) (fun hc14 => ?_) | refine wp_condNB rfl (fun hc14 => ?_) (fun hc14 => ?_) | refine wp_cond' rfl (fun hc14 => ?_) (fun hc14 => ?_)
      · refine wp_skip' (to_k0 (fun _ _ h => h) (hK9 _ _ ?_))
        clear hK9
        refine wp_seq' fun K10 hK10 => ?_
        refine wp_block' ?_
        refine wp_seq' fun K11 hK11 => ?_
        refine wp_reg ?_
        refine ol_r (r_move rfl) rfl ?_
        refine ol_r (r_assign rfl) rfl ?_
        refine ol_nil (to_k0 (fun _ _ h => h) (hK11 _ _ ?_))
        clear hK11
        refine wp_seq' fun K12 hK12 => ?_
        refine wp_regq (by kernel_rfl) (by kernel_rfl) ?_
        refine ql_r (r_move rfl) rfl ?_
        refine ql_r (r_move rfl) rfl ?_
        refine ql_ixr hx rfl rfl sl38 (by omega) rfl fun x18 hx18 => ?_
        try simp only [Int.toNat_natCast] at hx18
        refine ql_r (r_ldw rfl (fun w1 hb1 hs1 hB1 => Rd.loads hx ty24 hx18 hb1)) rfl ?_
        refine ql_r (r_move rfl) rfl ?_
        refine ql_r (r_move rfl) rfl ?_
        refine ql_ixr hy rfl rfl sl38 (by omega) rfl fun x22 hx22 => ?_
        try simp only [Int.toNat_natCast] at hx22
        have h22 : x22 = x18 := by rw [hx18] at hx22; cases hx22; rfl
        subst h22
        refine ql_r (r_ldw rfl (fun w1 hb1 hs1 hB1 => Rd.loads hy ty24 hx22 hb1)) rfl ?_
        refine ql_r (r_nes rfl rfl (by kernel_rfl) (fun w => run_eqs (by kernel_rfl) (by kernel_rfl) w)) rfl ?_
        refine ql_nil (to_k0 (fun _ _ h => h) (hK12 _ _ ?_))
        clear hK12
        first | refine wp_condD rfl (fun hc24 => ?_) (fun hc24 => ?_) | refine wp_condN rfl (fun hc24 => ?_) (fun hc24 => ?_) | refine wp_condNB rfl (fun hc24 => ?_) (fun hc24 => ?_) | refine wp_cond' rfl (fun hc24 => ?_) (fun hc24 => ?_)
        · refine wp_seq' fun K13 hK13 => ?_
          refine wp_reg ?_
          refine ol_r (r_assign rfl) rfl ?_
          refine ol_nil (to_k0 (fun _ _ h => h) (hK13 _ _ ?_))
          clear hK13
          refine hQ.ret (rvs1 (rv_t rfl)) (fun _ _ h => h) fun w hb hs hB => ?_
          first
            | exact ⟨rfl, hb⟩
            | (exfalso; simp_all; done)
            | (exfalso; simp_all [eqs, eqV, encBest]; done)
        · refine wp_skip' (to_k0 (fun _ _ h => h) (hK10 _ _ ?_))
          clear hK10
          refine wp_reg ?_
          refine ol_r (r_add rfl rfl (by omega)) rfl ?_
          refine ol_r (r_move rfl) rfl ?_
          refine ol_nil (to_k0 (fun _ _ h => h) (hK7 (k + 1) _ _ ?_ ?_ (sub_cons rfl sub_nil) (sub_cons rfl (sub_cons rfl (sub_cons rfl sub_nil))) (by exact subH_nil) subH_nil))
          · try dsimp only
            omega
          · try dsimp only
            omega
      · refine wp_exit' (to_k0 (fun _ _ h => h) (hK5 _ _ ?_))
        clear hK5
        refine wp_seq' fun K14 hK14 => ?_
        refine wp_reg ?_
        refine ol_r (r_assign rfl) rfl ?_
        refine ol_nil (to_k0 (fun _ _ h => h) (hK14 _ _ ?_))
        clear hK14
        refine hQ.ret (rvs1 (rv_t rfl)) (fun _ _ h => h) fun w hb hs hB => ?_
        first
          | exact ⟨rfl, hb⟩
          | (exfalso; simp_all; done)
          | (exfalso; simp_all [eqs, eqV, encBest]; done)
theorem law_curves (a : Option Addr) (n cap : Nat) (xs : List Int) (b : Option Addr) (m c2 : Nat) (zs : List Int) (size : Int) (w : World) (hl : Rd encI w.heap.size w a n cap xs) (hz : Rd encI w.heap.size w b m c2 zs) :
    Calls Try.prog 6 #[.slice a n cap, .slice b m c2, .int .i64 size] w fun e w' => e = .returned (.bool true) ∧ Below w.heap.size w w' := by
  refine enterQ (N := 100) (H := []) (B := w.heap.size) (args := [_, _, _]) Try.func6 rfl rfl rfl (Nat.le_refl _) (Sat.nil _ _) fun Q hQ => ?_
  refine wp_seq' fun K1 hK1 => ?_
  refine wp_reg ?_
  refine ol_r (r_assign rfl) rfl ?_
  refine ol_nil (to_k0 (fun _ _ h => h) (hK1 _ _ ?_))
  clear hK1
  refine wp_seq' fun K2 hK2 => ?_
  refine wp_reg ?_
  refine ol_r (r_move rfl) rfl ?_
  refine ol_r (r_move rfl) rfl ?_
  refine ol_call rfl rfl cb27 rfl (fun w1 hb1 hs1 hB1 => Calls.mono (effort_Curve _ _ _ _ _ _ xs zs _ (hl.at hb1 hB1) (hz.at hb1 hB1)) ?_)
  rintro e w2 ⟨a24, n24, c24, rfl, hf24⟩
  refine After.fresh (id := 24) rfl hb1 hs1 hB1 hf24 ?_
  have hl24 := hf24.len; clear hf24 hB1 hs1 hb1 w2 w1
  refine ol_r (r_move rfl) rfl ?_
  refine ol_r (r_extract rfl rfl) rfl ?_
  refine ol_r (r_extract rfl rfl) rfl ?_
  refine ol_r (r_assign rfl) rfl ?_
  refine ol_r (r_assign rfl) rfl ?_
  refine ol_nil (to_k0 (fun _ _ h => h) (hK2 _ _ ?_))
  clear hK2
  refine wp_seq' fun K3 hK3 => ?_
  refine wp_reg ?_
  refine ol_r (r_move rfl) rfl ?_
  refine ol_r (r_move rfl) rfl ?_
  refine ol_call rfl rfl cb28 rfl (fun w1 hb1 hs1 hB1 => Calls.mono (ref_Curve _ _ _ _ _ _ xs zs _ (hl.at hb1 hB1) (hz.at hb1 hB1)) ?_)
  rintro e w2 ⟨a30, n30, c30, rfl, hf30⟩
  refine After.fresh (id := 30) rfl hb1 hs1 hB1 hf30 ?_
  have hl30 := hf30.len; clear hf30 hB1 hs1 hb1 w2 w1
  refine ol_r (r_move rfl) rfl ?_
  refine ol_r (r_extract rfl rfl) rfl ?_
  refine ol_r (r_extract rfl rfl) rfl ?_
  refine ol_r (r_assign rfl) rfl ?_
  refine ol_r (r_assign rfl) rfl ?_
  refine ol_nil (to_k0 (fun _ _ h => h) (hK3 _ _ ?_))
  clear hK3
  refine wp_seq' fun K4 hK4 => ?_
  refine wp_reg ?_
  refine ol_r (r_move rfl) rfl ?_
  refine ol_r (r_move rfl) rfl ?_
  refine ol_call rfl rfl cb29 rfl (fun w1 hb1 hs1 hB1 => Calls.mono (effort_Smooth _ _ _ xs _ _ (hl.at hb1 hB1)) ?_)
  rintro e w2 ⟨a36, n36, c36, rfl, hf36⟩
  refine After.fresh (id := 36) rfl hb1 hs1 hB1 hf36 ?_
  have hl36 := hf36.len; clear hf36 hB1 hs1 hb1 w2 w1
  refine ol_r (r_move rfl) rfl ?_
  refine ol_r (r_extract rfl rfl) rfl ?_
  refine ol_r (r_extract rfl rfl) rfl ?_
  refine ol_r (r_assign rfl) rfl ?_
  refine ol_r (r_assign rfl) rfl ?_
  refine ol_nil (to_k0 (fun _ _ h => h) (hK4 _ _ ?_))
  clear hK4
  refine wp_seq' fun K5 hK5 => ?_
  refine wp_reg ?_
  refine ol_r (r_move rfl) rfl ?_
  refine ol_r (r_move rfl) rfl ?_
  refine ol_call rfl rfl cb30 rfl (fun w1 hb1 hs1 hB1 => Calls.mono (ref_Smooth _ _ _ xs _ _ (hl.at hb1 hB1)) ?_)
  rintro e w2 ⟨a42, n42, c42, rfl, hf42⟩
  refine After.fresh (id := 42) rfl hb1 hs1 hB1 hf42 ?_
  have hl42 := hf42.len; clear hf42 hB1 hs1 hb1 w2 w1
  refine ol_r (r_move rfl) rfl ?_
  refine ol_r (r_extract rfl rfl) rfl ?_
  refine ol_r (r_extract rfl rfl) rfl ?_
  refine ol_r (r_assign rfl) rfl ?_
  refine ol_r (r_assign rfl) rfl ?_
  refine ol_nil (to_k0 (fun _ _ h => h) (hK5 _ _ ?_))
  clear hK5
  refine wp_seq' fun K6 hK6 => ?_
  refine wp_reg ?_
  refine ol_r (r_move rfl) rfl ?_
  refine ol_call rfl rfl cb31 rfl (fun w1 hb1 hs1 hB1 => ?_)
  refine Calls.mono (effort_Hard _ _ _ xs _ (hl.at hb1 hB1)) ?_
  rintro e w2 ⟨r, c, ok, hR, rfl, hb2⟩
  refine After.below rfl hb1 hs1 hB1 hb2 ?_
  clear hb2 hB1 hs1 hb1 w2 w1
  refine ol_r (r_move rfl) rfl ?_
  refine ol_r (r_extract rfl rfl) rfl ?_
  refine ol_r (r_extract rfl rfl) rfl ?_
  refine ol_r (r_extract rfl rfl) rfl ?_
  refine ol_r (r_assign rfl) rfl ?_
  refine ol_r (r_assign rfl) rfl ?_
  refine ol_r (r_assign rfl) rfl ?_
  refine ol_nil (to_k0 (fun _ _ h => h) (hK6 _ _ ?_))
  clear hK6
  refine wp_seq' fun K7 hK7 => ?_
  refine wp_reg ?_
  refine ol_r (r_move rfl) rfl ?_
  refine ol_call rfl rfl cb32 rfl (fun w1 hb1 hs1 hB1 => ?_)
  refine Calls.mono (ref_Hard _ _ _ xs _ (hl.at hb1 hB1)) ?_
  rintro e w2 ⟨r', c', ok', hR', rfl, hb2⟩
  obtain ⟨rfl, rfl, rfl⟩ := hR.unique hR'
  refine After.below rfl hb1 hs1 hB1 hb2 ?_
  clear hb2 hB1 hs1 hb1 w2 w1
  refine ol_r (r_move rfl) rfl ?_
  refine ol_r (r_extract rfl rfl) rfl ?_
  refine ol_r (r_extract rfl rfl) rfl ?_
  refine ol_r (r_extract rfl rfl) rfl ?_
  refine ol_r (r_assign rfl) rfl ?_
  refine ol_r (r_assign rfl) rfl ?_
  refine ol_r (r_assign rfl) rfl ?_
  refine ol_nil (to_k0 (fun _ _ h => h) (hK7 _ _ ?_))
  clear hK7
  refine wp_seq' fun K8 hK8 => ?_
  refine wp_reg ?_
  refine ol_r (r_move rfl) rfl ?_
  refine ol_call rfl rfl cb33 rfl (fun w1 hb1 hs1 hB1 => Calls.mono (effort_CheckSizes _ _ _ zs _ (hz.at hb1 hB1)) ?_)
  rintro e w2 ⟨rfl, hb2⟩
  refine After.below rfl hb1 hs1 hB1 hb2 ?_
  clear hb2 hB1 hs1 hb1 w2 w1
  refine ol_r (r_move rfl) rfl ?_
  refine ol_call rfl rfl cb34 rfl (fun w1 hb1 hs1 hB1 => Calls.mono (ref_CheckSizes _ _ _ zs _ (hz.at hb1 hB1)) ?_)
  rintro e w2 ⟨rfl, hb2⟩
  refine After.below rfl hb1 hs1 hB1 hb2 ?_
  clear hb2 hB1 hs1 hb1 w2 w1
  refine ol_r (r_eql rfl rfl) rfl ?_
  refine ol_r (r_move rfl) rfl ?_
  refine ol_split (d := 62) rfl (fun hs62 => ?_) (fun hs62 => ?_)
  · have phs62 := hs62; try simp only [decide_eq_true_eq, decide_eq_false_iff_not, Bool.not_eq_true', Bool.not_eq_false', Bool.not_true, Bool.not_false] at phs62
    refine ol_g rfl rfl hs62 ?_
    refine ol_r (r_move rfl) rfl ?_
    refine ol_g rfl rfl hs62 ?_
    refine ol_r (r_move rfl) rfl ?_
    refine ol_g rfl rfl hs62 ?_
    refine ol_call rfl rfl cb35 rfl (fun w1 hb1 hs1 hB1 => ?_)
    have hnn : n30 = n24 := by rw [← hl30, ← hl24]
    subst hnn
    refine Calls.mono (equal_best_same _ _ _ _ _ (curveR xs zs).1 _ (Sat.rd hs1 (id := 24) rfl rfl) (Sat.rd hs1 (id := 30) rfl rfl)) ?_
    rintro e w2 ⟨rfl, hb2⟩
    refine After.below rfl hb1 hs1 hB1 hb2 ?_
    clear hb2 hB1 hs1 hb1 w2 w1
    refine ol_r (r_pickT rfl hs62 rfl) rfl ?_
    refine ol_r (r_move rfl) rfl ?_
    refine ol_split (d := 67) rfl (fun hs67 => ?_) (fun hs67 => ?_)
    · have phs67 := hs67; try simp only [decide_eq_true_eq, decide_eq_false_iff_not, Bool.not_eq_true', Bool.not_eq_false', Bool.not_true, Bool.not_false] at phs67
      refine ol_g rfl rfl hs67 ?_
      refine ol_r (r_move rfl) rfl ?_
      refine ol_g rfl rfl hs67 ?_
      refine ol_r (r_move rfl) rfl ?_
      refine ol_g rfl rfl hs67 ?_
      refine ol_r (r_eql rfl rfl) rfl ?_
      refine ol_r (r_pickT rfl hs67 rfl) rfl ?_
      refine ol_r (r_move rfl) rfl ?_
      refine ol_split (d := 72) rfl (fun hs72 => ?_) (fun hs72 => ?_)
      · have phs72 := hs72; try simp only [decide_eq_true_eq, decide_eq_false_iff_not, Bool.not_eq_true', Bool.not_eq_false', Bool.not_true, Bool.not_false] at phs72
        refine ol_g rfl rfl hs72 ?_
        refine ol_r (r_move rfl) rfl ?_
        refine ol_g rfl rfl hs72 ?_
        refine ol_r (r_move rfl) rfl ?_
        refine ol_g rfl rfl hs72 ?_
        refine ol_call rfl rfl cb26 rfl (fun w1 hb1 hs1 hB1 => Calls.mono (equal_int _ _ _ _ _ _ (smoothR xs size).1 (smoothR xs size).1 _ (Sat.rd hs1 (id := 36) rfl rfl) (Sat.rd hs1 (id := 42) rfl rfl)) ?_)
        rintro e w2 ⟨rfl, hb2⟩
        refine After.below rfl hb1 hs1 hB1 hb2 ?_
        clear hb2 hB1 hs1 hb1 w2 w1
        refine ol_r (r_pickT rfl hs72 rfl) rfl ?_
        refine ol_r (r_move rfl) rfl ?_
        refine ol_split (d := 77) rfl (fun hs77 => ?_) (fun hs77 => ?_)
        · have phs77 := hs77; try simp only [decide_eq_true_eq, decide_eq_false_iff_not, Bool.not_eq_true', Bool.not_eq_false', Bool.not_true, Bool.not_false] at phs77
          refine ol_g rfl rfl hs77 ?_
          refine ol_r (r_move rfl) rfl ?_
          refine ol_g rfl rfl hs77 ?_
          refine ol_r (r_move rfl) rfl ?_
          refine ol_g rfl rfl hs77 ?_
          refine ol_r (r_eql rfl rfl) rfl ?_
          refine ol_r (r_pickT rfl hs77 rfl) rfl ?_
          refine ol_r (r_move rfl) rfl ?_
          refine ol_split (d := 82) rfl (fun hs82 => ?_) (fun hs82 => ?_)
          · have phs82 := hs82; try simp only [decide_eq_true_eq, decide_eq_false_iff_not, Bool.not_eq_true', Bool.not_eq_false', Bool.not_true, Bool.not_false] at phs82
            refine ol_g rfl rfl hs82 ?_
            refine ol_r (r_move rfl) rfl ?_
            refine ol_g rfl rfl hs82 ?_
            refine ol_r (r_move rfl) rfl ?_
            refine ol_g rfl rfl hs82 ?_
            refine ol_r (r_eql rfl rfl) rfl ?_
            refine ol_r (r_pickT rfl hs82 rfl) rfl ?_
            refine ol_r (r_move rfl) rfl ?_
            refine ol_split (d := 87) rfl (fun hs87 => ?_) (fun hs87 => ?_)
            · have phs87 := hs87; try simp only [decide_eq_true_eq, decide_eq_false_iff_not, Bool.not_eq_true', Bool.not_eq_false', Bool.not_true, Bool.not_false] at phs87
              refine ol_g rfl rfl hs87 ?_
              refine ol_r (r_move rfl) rfl ?_
              refine ol_g rfl rfl hs87 ?_
              refine ol_r (r_move rfl) rfl ?_
              refine ol_g rfl rfl hs87 ?_
              refine ol_r (r_beql rfl rfl (by kernel_rfl)) rfl ?_
              refine ol_r (r_pickT rfl hs87 rfl) rfl ?_
              refine ol_r (r_move rfl) rfl ?_
              refine ol_split (d := 92) rfl (fun hs92 => ?_) (fun hs92 => ?_)
              · have phs92 := hs92; try simp only [decide_eq_true_eq, decide_eq_false_iff_not, Bool.not_eq_true', Bool.not_eq_false', Bool.not_true, Bool.not_false] at phs92
                refine ol_g rfl rfl hs92 ?_
                refine ol_r (r_move rfl) rfl ?_
                refine ol_g rfl rfl hs92 ?_
                refine ol_r (r_move rfl) rfl ?_
                refine ol_g rfl rfl hs92 ?_
                refine ol_r (r_eql rfl rfl) rfl ?_
                refine ol_r (r_pickT rfl hs92 rfl) rfl ?_
                refine ol_r (r_move rfl) rfl ?_
                refine ol_split (d := 97) rfl (fun hs97 => ?_) (fun hs97 => ?_)
                · have phs97 := hs97; try simp only [decide_eq_true_eq, decide_eq_false_iff_not, Bool.not_eq_true', Bool.not_eq_false', Bool.not_true, Bool.not_false] at phs97
                  refine ol_g rfl rfl hs97 ?_
                  refine ol_call rfl rfl cb16 rfl (fun w1 hb1 hs1 hB1 => Calls.mono (effort_told _) ?_)
                  rintro e w2 ⟨rfl, hb2⟩
                  refine After.below rfl hb1 hs1 hB1 hb2 ?_
                  clear hb2 hB1 hs1 hb1 w2 w1
                  refine ol_r (r_pickT rfl hs97 rfl) rfl ?_
                  refine ol_r (r_assign rfl) rfl ?_
                  refine ol_nil (to_k0 (fun _ _ h => h) (hK8 _ _ ?_))
                  clear hK8
                  refine hQ.ret (rvs1 (rv_t rfl)) (fun _ _ h => h) fun w hb hs hB => ?_
                  first
                    | exact ⟨rfl, hb⟩
                    | (exfalso; simp_all; done)
                · have phs97 := hs97; try simp only [decide_eq_true_eq, decide_eq_false_iff_not, Bool.not_eq_true', Bool.not_eq_false', Bool.not_true, Bool.not_false] at phs97
                  refine ol_s rfl rfl hs97 rfl ?_
                  refine ol_r (r_pickF rfl hs97 rfl) rfl ?_
                  refine ol_r (r_assign rfl) rfl ?_
                  refine ol_nil (to_k0 (fun _ _ h => h) (hK8 _ _ ?_))
                  clear hK8
                  refine hQ.ret (rvs1 (rv_t rfl)) (fun _ _ h => h) fun w hb hs hB => ?_
                  first
                    | exact ⟨rfl, hb⟩
                    | (exfalso; simp_all; done)
              · have phs92 := hs92; try simp only [decide_eq_true_eq, decide_eq_false_iff_not, Bool.not_eq_true', Bool.not_eq_false', Bool.not_true, Bool.not_false] at phs92
                refine ol_s rfl rfl hs92 rfl ?_
                refine ol_s rfl rfl hs92 rfl ?_
                refine ol_s rfl rfl hs92 rfl ?_
                refine ol_r (r_pickF rfl hs92 rfl) rfl ?_
                refine ol_r (r_move rfl) rfl ?_
                refine ol_s rfl rfl rfl rfl ?_
                refine ol_r (r_pickF rfl rfl rfl) rfl ?_
                refine ol_r (r_assign rfl) rfl ?_
                refine ol_nil (to_k0 (fun _ _ h => h) (hK8 _ _ ?_))
                clear hK8
                refine hQ.ret (rvs1 (rv_t rfl)) (fun _ _ h => h) fun w hb hs hB => ?_
                first
                  | exact ⟨rfl, hb⟩
                  | (exfalso; simp_all; done)
            · have phs87 := hs87; try simp only [decide_eq_true_eq, decide_eq_false_iff_not, Bool.not_eq_true', Bool.not_eq_false', Bool.not_true, Bool.not_false] at phs87
              refine ol_s rfl rfl hs87 rfl ?_
              refine ol_s rfl rfl hs87 rfl ?_
              refine ol_s rfl rfl hs87 rfl ?_
              refine ol_r (r_pickF rfl hs87 rfl) rfl ?_
              refine ol_r (r_move rfl) rfl ?_
              refine ol_s rfl rfl rfl rfl ?_
              refine ol_s rfl rfl rfl rfl ?_
              refine ol_s rfl rfl rfl rfl ?_
              refine ol_r (r_pickF rfl rfl rfl) rfl ?_
              refine ol_r (r_move rfl) rfl ?_
              refine ol_s rfl rfl rfl rfl ?_
              refine ol_r (r_pickF rfl rfl rfl) rfl ?_
              refine ol_r (r_assign rfl) rfl ?_
              refine ol_nil (to_k0 (fun _ _ h => h) (hK8 _ _ ?_))
              clear hK8
              refine hQ.ret (rvs1 (rv_t rfl)) (fun _ _ h => h) fun w hb hs hB => ?_
              first
                | exact ⟨rfl, hb⟩
                | (exfalso; simp_all; done)
          · have phs82 := hs82; try simp only [decide_eq_true_eq, decide_eq_false_iff_not, Bool.not_eq_true', Bool.not_eq_false', Bool.not_true, Bool.not_false] at phs82
            refine ol_s rfl rfl hs82 rfl ?_
            refine ol_s rfl rfl hs82 rfl ?_
            refine ol_s rfl rfl hs82 rfl ?_
            refine ol_r (r_pickF rfl hs82 rfl) rfl ?_
            refine ol_r (r_move rfl) rfl ?_
            refine ol_s rfl rfl rfl rfl ?_
            refine ol_s rfl rfl rfl rfl ?_
            refine ol_s rfl rfl rfl rfl ?_
            refine ol_r (r_pickF rfl rfl rfl) rfl ?_
            refine ol_r (r_move rfl) rfl ?_
            refine ol_s rfl rfl rfl rfl ?_
            refine ol_s rfl rfl rfl rfl ?_
            refine ol_s rfl rfl rfl rfl ?_
            refine ol_r (r_pickF rfl rfl rfl) rfl ?_
            refine ol_r (r_move rfl) rfl ?_
            refine ol_s rfl rfl rfl rfl ?_
            refine ol_r (r_pickF rfl rfl rfl) rfl ?_
            refine ol_r (r_assign rfl) rfl ?_
            refine ol_nil (to_k0 (fun _ _ h => h) (hK8 _ _ ?_))
            clear hK8
            refine hQ.ret (rvs1 (rv_t rfl)) (fun _ _ h => h) fun w hb hs hB => ?_
            first
              | exact ⟨rfl, hb⟩
              | (exfalso; simp_all; done)
        · have phs77 := hs77; try simp only [decide_eq_true_eq, decide_eq_false_iff_not, Bool.not_eq_true', Bool.not_eq_false', Bool.not_true, Bool.not_false] at phs77
          refine ol_s rfl rfl hs77 rfl ?_
          refine ol_s rfl rfl hs77 rfl ?_
          refine ol_s rfl rfl hs77 rfl ?_
          refine ol_r (r_pickF rfl hs77 rfl) rfl ?_
          refine ol_r (r_move rfl) rfl ?_
          refine ol_s rfl rfl rfl rfl ?_
          refine ol_s rfl rfl rfl rfl ?_
          refine ol_s rfl rfl rfl rfl ?_
          refine ol_r (r_pickF rfl rfl rfl) rfl ?_
          refine ol_r (r_move rfl) rfl ?_
          refine ol_s rfl rfl rfl rfl ?_
          refine ol_s rfl rfl rfl rfl ?_
          refine ol_s rfl rfl rfl rfl ?_
          refine ol_r (r_pickF rfl rfl rfl) rfl ?_
          refine ol_r (r_move rfl) rfl ?_
          refine ol_s rfl rfl rfl rfl ?_
          refine ol_s rfl rfl rfl rfl ?_
          refine ol_s rfl rfl rfl rfl ?_
          refine ol_r (r_pickF rfl rfl rfl) rfl ?_
          refine ol_r (r_move rfl) rfl ?_
          refine ol_s rfl rfl rfl rfl ?_
          refine ol_r (r_pickF rfl rfl rfl) rfl ?_
          refine ol_r (r_assign rfl) rfl ?_
          refine ol_nil (to_k0 (fun _ _ h => h) (hK8 _ _ ?_))
          clear hK8
          refine hQ.ret (rvs1 (rv_t rfl)) (fun _ _ h => h) fun w hb hs hB => ?_
          first
            | exact ⟨rfl, hb⟩
            | (exfalso; simp_all; done)
      · have phs72 := hs72; try simp only [decide_eq_true_eq, decide_eq_false_iff_not, Bool.not_eq_true', Bool.not_eq_false', Bool.not_true, Bool.not_false] at phs72
        refine ol_s rfl rfl hs72 rfl ?_
        refine ol_s rfl rfl hs72 rfl ?_
        refine ol_s rfl rfl hs72 rfl ?_
        refine ol_r (r_pickF rfl hs72 rfl) rfl ?_
        refine ol_r (r_move rfl) rfl ?_
        refine ol_s rfl rfl rfl rfl ?_
        refine ol_s rfl rfl rfl rfl ?_
        refine ol_s rfl rfl rfl rfl ?_
        refine ol_r (r_pickF rfl rfl rfl) rfl ?_
        refine ol_r (r_move rfl) rfl ?_
        refine ol_s rfl rfl rfl rfl ?_
        refine ol_s rfl rfl rfl rfl ?_
        refine ol_s rfl rfl rfl rfl ?_
        refine ol_r (r_pickF rfl rfl rfl) rfl ?_
        refine ol_r (r_move rfl) rfl ?_
        refine ol_s rfl rfl rfl rfl ?_
        refine ol_s rfl rfl rfl rfl ?_
        refine ol_s rfl rfl rfl rfl ?_
        refine ol_r (r_pickF rfl rfl rfl) rfl ?_
        refine ol_r (r_move rfl) rfl ?_
        refine ol_s rfl rfl rfl rfl ?_
        refine ol_s rfl rfl rfl rfl ?_
        refine ol_s rfl rfl rfl rfl ?_
        refine ol_r (r_pickF rfl rfl rfl) rfl ?_
        refine ol_r (r_move rfl) rfl ?_
        refine ol_s rfl rfl rfl rfl ?_
        refine ol_r (r_pickF rfl rfl rfl) rfl ?_
        refine ol_r (r_assign rfl) rfl ?_
        refine ol_nil (to_k0 (fun _ _ h => h) (hK8 _ _ ?_))
        clear hK8
        refine hQ.ret (rvs1 (rv_t rfl)) (fun _ _ h => h) fun w hb hs hB => ?_
        first
          | exact ⟨rfl, hb⟩
          | (exfalso; simp_all; done)
    · have phs67 := hs67; try simp only [decide_eq_true_eq, decide_eq_false_iff_not, Bool.not_eq_true', Bool.not_eq_false', Bool.not_true, Bool.not_false] at phs67
      refine ol_s rfl rfl hs67 rfl ?_
      refine ol_s rfl rfl hs67 rfl ?_
      refine ol_s rfl rfl hs67 rfl ?_
      refine ol_r (r_pickF rfl hs67 rfl) rfl ?_
      refine ol_r (r_move rfl) rfl ?_
      refine ol_s rfl rfl rfl rfl ?_
      refine ol_s rfl rfl rfl rfl ?_
      refine ol_s rfl rfl rfl rfl ?_
      refine ol_r (r_pickF rfl rfl rfl) rfl ?_
      refine ol_r (r_move rfl) rfl ?_
      refine ol_s rfl rfl rfl rfl ?_
      refine ol_s rfl rfl rfl rfl ?_
      refine ol_s rfl rfl rfl rfl ?_
      refine ol_r (r_pickF rfl rfl rfl) rfl ?_
      refine ol_r (r_move rfl) rfl ?_
      refine ol_s rfl rfl rfl rfl ?_
      refine ol_s rfl rfl rfl rfl ?_
      refine ol_s rfl rfl rfl rfl ?_
      refine ol_r (r_pickF rfl rfl rfl) rfl ?_
      refine ol_r (r_move rfl) rfl ?_
      refine ol_s rfl rfl rfl rfl ?_
      refine ol_s rfl rfl rfl rfl ?_
      refine ol_s rfl rfl rfl rfl ?_
      refine ol_r (r_pickF rfl rfl rfl) rfl ?_
      refine ol_r (r_move rfl) rfl ?_
      refine ol_s rfl rfl rfl rfl ?_
      refine ol_s rfl rfl rfl rfl ?_
      refine ol_s rfl rfl rfl rfl ?_
      refine ol_r (r_pickF rfl rfl rfl) rfl ?_
      refine ol_r (r_move rfl) rfl ?_
      refine ol_s rfl rfl rfl rfl ?_
      refine ol_r (r_pickF rfl rfl rfl) rfl ?_
      refine ol_r (r_assign rfl) rfl ?_
      refine ol_nil (to_k0 (fun _ _ h => h) (hK8 _ _ ?_))
      clear hK8
      refine hQ.ret (rvs1 (rv_t rfl)) (fun _ _ h => h) fun w hb hs hB => ?_
      first
        | exact ⟨rfl, hb⟩
        | (exfalso; simp_all; done)
  · have phs62 := hs62; try simp only [decide_eq_true_eq, decide_eq_false_iff_not, Bool.not_eq_true', Bool.not_eq_false', Bool.not_true, Bool.not_false] at phs62
    refine ol_s rfl rfl hs62 rfl ?_
    refine ol_s rfl rfl hs62 rfl ?_
    refine ol_s rfl rfl hs62 rfl ?_
    refine ol_r (r_pickF rfl hs62 rfl) rfl ?_
    refine ol_r (r_move rfl) rfl ?_
    refine ol_s rfl rfl rfl rfl ?_
    refine ol_s rfl rfl rfl rfl ?_
    refine ol_s rfl rfl rfl rfl ?_
    refine ol_r (r_pickF rfl rfl rfl) rfl ?_
    refine ol_r (r_move rfl) rfl ?_
    refine ol_s rfl rfl rfl rfl ?_
    refine ol_s rfl rfl rfl rfl ?_
    refine ol_s rfl rfl rfl rfl ?_
    refine ol_r (r_pickF rfl rfl rfl) rfl ?_
    refine ol_r (r_move rfl) rfl ?_
    refine ol_s rfl rfl rfl rfl ?_
    refine ol_s rfl rfl rfl rfl ?_
    refine ol_s rfl rfl rfl rfl ?_
    refine ol_r (r_pickF rfl rfl rfl) rfl ?_
    refine ol_r (r_move rfl) rfl ?_
    refine ol_s rfl rfl rfl rfl ?_
    refine ol_s rfl rfl rfl rfl ?_
    refine ol_s rfl rfl rfl rfl ?_
    refine ol_r (r_pickF rfl rfl rfl) rfl ?_
    refine ol_r (r_move rfl) rfl ?_
    refine ol_s rfl rfl rfl rfl ?_
    refine ol_s rfl rfl rfl rfl ?_
    refine ol_s rfl rfl rfl rfl ?_
    refine ol_r (r_pickF rfl rfl rfl) rfl ?_
    refine ol_r (r_move rfl) rfl ?_
    refine ol_s rfl rfl rfl rfl ?_
    refine ol_s rfl rfl rfl rfl ?_
    refine ol_s rfl rfl rfl rfl ?_
    refine ol_r (r_pickF rfl rfl rfl) rfl ?_
    refine ol_r (r_move rfl) rfl ?_
    refine ol_s rfl rfl rfl rfl ?_
    refine ol_r (r_pickF rfl rfl rfl) rfl ?_
    refine ol_r (r_assign rfl) rfl ?_
    refine ol_nil (to_k0 (fun _ _ h => h) (hK8 _ _ ?_))
    clear hK8
    refine hQ.ret (rvs1 (rv_t rfl)) (fun _ _ h => h) fun w hb hs hB => ?_
    first
      | exact ⟨rfl, hb⟩
      | (exfalso; simp_all; done)
end Go.Proofs.Ytafkojlccknicaa
