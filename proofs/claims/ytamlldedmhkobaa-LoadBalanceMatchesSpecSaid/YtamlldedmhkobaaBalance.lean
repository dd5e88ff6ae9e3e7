/-
  Balance and Empty: program and reference; the walk of LoadBalanceMatchesSpec.
-/
import Derived.Test.YtamlldedmhkobaaBalM
import Derived.Test.YtamlldedmhkobaaIndexFn
import Derived.Test.YtamlldedmhkobaaStream
import Derived.Test.YtamlldedmhkobaaLoadMore
namespace Go.Proofs.Ytamlldedmhkobaa
open Go Go.RowKit Hx
set_option linter.unusedVariables false
set_option linter.unusedSimpArgs false
set_option maxRecDepth 8000

theorem load_Balance (a : Option Addr) (n cap : Nat) (xs : List Int) (p v : Int) (w : World) (hl : Rd encI w.heap.size w a n cap xs) :
    Calls Try.prog 30 #[.slice a n cap, .int .i64 p, .int .i64 v] w fun e w' =>
      ∃ b m k, e = .returned (.tuple #[.slice b m k, .int .i64 (balR xs p v).2]) ∧ Fresh encI 3 w w' b m k (balR xs p v).1 := by
  have hn := hl.len
  have hfit := hl.fit
  subst hn
  refine enterQ (N := 73) (C := fun _ => True) (H := []) (B := w.heap.size) (args := [_, _, _]) Try.func30 rfl rfl rfl (Nat.le_refl _) (Sat.nil _ _) fun Q hQ => ?_
  refine wp_seq' fun K1 hK1 => ?_
  refine wp_reg ?_
  refine ol_r (r_assign rfl) rfl ?_
  refine ol_r (r_assign rfl) rfl ?_
  refine ol_nil (to_k0 (fun _ _ h => h) (hK1 _ _ _ ?_))
  clear hK1
  refine wp_seq' fun K2 hK2 => ?_
  refine wp_seq' fun K3 hK3 => ?_
  refine wp_reg ?_
  refine ol_r (r_move rfl) rfl ?_
  refine ol_call rfl rfl cb74 rfl (fun w1 hb1 hs1 hB1 => Calls.mono (effort_CheckStream _ _ _ xs _ (hl.at hb1 hB1)) ?_)
  rintro e w2 ⟨rfl, hb2⟩
  refine After.below rfl hb1 hs1 hB1 hb2 ?_
  clear hb2 hB1 hs1 hb1 w2 w1
  refine ol_r (r_assign rfl) rfl ?_
  refine ol_nil (to_k0 (fun _ _ h => h) (hK3 _ _ _ ?_))
  clear hK3
  refine wp_seq' fun K4 hK4 => ?_
  refine wp_reg ?_
  refine ol_r (r_move rfl) rfl ?_
  refine ol_r (r_neq rfl rfl) rfl ?_
  refine ol_nil (to_k0 (fun _ _ h => h) (hK4 _ _ _ ?_))
  clear hK4
  first | refine wp_condD rfl (fun hc17 => ?_) (fun hc17 => ?_) | refine wp_condN rfl (fun hc17 => ?_) (fun hc17 => ?_) | refine wp_condNB rfl (fun hc17 => ?_) (fun hc17 => ?_) | refine wp_cond' rfl (fun hc17 => ?_) (fun hc17 => ?_)
  · refine wp_seq' fun K5 hK5 => ?_
    refine wp_reg ?_
    refine ol_r (r_move rfl) rfl ?_
    refine ol_r (r_assign rfl) rfl ?_
    refine ol_r (r_assign rfl) rfl ?_
    refine ol_nil (to_k0 (fun _ _ h => h) (hK5 _ _ _ ?_))
    clear hK5
    refine hQ.ret (rvs2 (rv_t rfl) (rv_t rfl)) (fun _ _ h => h) fun w hb hs hB hkd => ?_
    first
      | (have h := balR_e (p := p) (w := v) hc17
         exact ⟨none, 0, 0, by rw [h], by rw [h]; exact Fresh.nil hb⟩)
      | (have h : balR xs p v = ([], 9) := balR_9 (Decidable.not_not.1 hc17) (by first | exact balOk_max (by omega) (by simpa using hs27) | exact balOk_p (by simpa using hs32) | exact balOk_w (by simpa using hc36) | exact balOk_x hx24 (by omega) | exact balOk_p (by simpa using hs31) | exact balOk_w (by simpa using hc34))
         exact ⟨none, 0, 0, by rw [h], by rw [h]; exact Fresh.nil hb⟩)
      | (have hk' : k = xs.length := by omega
         subst hk'
         rw [balR_0 hE hO]
         refine ⟨oa, _, oc, rfl, hb, ?_⟩
         have := hs.ok 9 _ rfl
         rw [List.take_length] at this
         exact this)
  · refine wp_skip' (to_k0 (fun _ _ h => h) (hK2 _ _ _ ?_))
    clear hK2
    refine wp_seq' fun K6 hK6 => ?_
    refine wp_seq' fun K7 hK7 => ?_
    refine wp_reg ?_
    refine ol_r (r_move rfl) rfl ?_
    refine ol_r (r_len rfl sl22) rfl ?_
    refine ol_r (r_gtr rfl rfl) rfl ?_
    refine ol_r (r_move rfl) rfl ?_
    refine ol_split (d := 22) rfl (fun hs22 => ?_) (fun hs22 => ?_)
    · have phs22 := hs22; try simp only [decide_eq_true_eq, decide_eq_false_iff_not, Bool.not_eq_true', Bool.not_eq_false', Bool.not_true, Bool.not_false] at phs22
      refine ol_g rfl rfl hs22 ?_
      refine ol_r (r_move rfl) rfl ?_
      refine ol_g rfl rfl hs22 ?_
      refine ol_call rfl rfl cb65 rfl (fun w1 hb1 hs1 hB1 => Calls.mono (max_int _ _ _ xs _ (hl.at hb1 hB1) (by omega)) ?_)
      rintro e w2 ⟨rfl, hb2⟩
      refine After.below rfl hb1 hs1 hB1 hb2 ?_
      clear hb2 hB1 hs1 hb1 w2 w1
      refine ol_g rfl rfl hs22 ?_
      refine ol_r (r_gtr rfl rfl) rfl ?_
      refine ol_r (r_pickT rfl hs22 rfl) rfl ?_
      refine ol_r (r_move rfl) rfl ?_
      refine ol_split (d := 27) rfl (fun hs27 => ?_) (fun hs27 => ?_)
      · have phs27 := hs27; try simp only [decide_eq_true_eq, decide_eq_false_iff_not, Bool.not_eq_true', Bool.not_eq_false', Bool.not_true, Bool.not_false] at phs27
        refine ol_s rfl rfl hs27 rfl ?_
        refine ol_s rfl rfl hs27 rfl ?_
        refine ol_s rfl rfl hs27 rfl ?_
        refine ol_r (r_pickT rfl hs27 rfl) rfl ?_
        refine ol_r (r_move rfl) rfl ?_
        refine ol_s rfl rfl rfl rfl ?_
        refine ol_s rfl rfl rfl rfl ?_
        refine ol_s rfl rfl rfl rfl ?_
        refine ol_r (r_pickT rfl rfl rfl) rfl ?_
        refine ol_nil (to_k0 (fun _ _ h => h) (hK7 _ _ _ ?_))
        clear hK7
        refine wp_condT rfl ?_
        refine wp_seq' fun K8 hK8 => ?_
        refine wp_reg ?_
        refine ol_r (r_assign rfl) rfl ?_
        refine ol_r (r_assign rfl) rfl ?_
        refine ol_nil (to_k0 (fun _ _ h => h) (hK8 _ _ _ ?_))
        clear hK8
        refine hQ.ret (rvs2 (rv_t rfl) (rv_t rfl)) (fun _ _ h => h) fun w hb hs hB hkd => ?_
        first
          | (have h := balR_e (p := p) (w := v) hc17
             exact ⟨none, 0, 0, by rw [h], by rw [h]; exact Fresh.nil hb⟩)
          | (have h : balR xs p v = ([], 9) := balR_9 (Decidable.not_not.1 hc17) (by first | exact balOk_max (by omega) (by simpa using hs27) | exact balOk_p (by simpa using hs32) | exact balOk_w (by simpa using hc36) | exact balOk_x hx24 (by omega) | exact balOk_p (by simpa using hs31) | exact balOk_w (by simpa using hc34))
             exact ⟨none, 0, 0, by rw [h], by rw [h]; exact Fresh.nil hb⟩)
          | (have hk' : k = xs.length := by omega
             subst hk'
             rw [balR_0 hE hO]
             refine ⟨oa, _, oc, rfl, hb, ?_⟩
             have := hs.ok 9 _ rfl
             rw [List.take_length] at this
             exact this)
      · have phs27 := hs27; try simp only [decide_eq_true_eq, decide_eq_false_iff_not, Bool.not_eq_true', Bool.not_eq_false', Bool.not_true, Bool.not_false] at phs27
        refine ol_g rfl rfl hs27 ?_
        refine ol_r (r_move rfl) rfl ?_
        refine ol_g rfl rfl hs27 ?_
        refine ol_call rfl rfl cb67 rfl (fun w1 hb1 hs1 hB1 => Calls.mono (load_in _ _ _ _) ?_)
        rintro e w2 ⟨rfl, hb2⟩
        refine After.below rfl hb1 hs1 hB1 hb2 ?_
        clear hb2 hB1 hs1 hb1 w2 w1
        refine ol_g rfl rfl hs27 ?_
        refine ol_r (r_not rfl) rfl ?_
        refine ol_r (r_pickF rfl hs27 rfl) rfl ?_
        refine ol_r (r_move rfl) rfl ?_
        refine ol_split (d := 32) rfl (fun hs32 => ?_) (fun hs32 => ?_)
        · have phs32 := hs32; try simp only [decide_eq_true_eq, decide_eq_false_iff_not, Bool.not_eq_true', Bool.not_eq_false', Bool.not_true, Bool.not_false] at phs32
          refine ol_s rfl rfl hs32 rfl ?_
          refine ol_s rfl rfl hs32 rfl ?_
          refine ol_s rfl rfl hs32 rfl ?_
          refine ol_r (r_pickT rfl hs32 rfl) rfl ?_
          refine ol_nil (to_k0 (fun _ _ h => h) (hK7 _ _ _ ?_))
          clear hK7
          refine wp_condT rfl ?_
          refine wp_seq' fun K9 hK9 => ?_
          refine wp_reg ?_
          refine ol_r (r_assign rfl) rfl ?_
          refine ol_r (r_assign rfl) rfl ?_
          refine ol_nil (to_k0 (fun _ _ h => h) (hK9 _ _ _ ?_))
          clear hK9
          refine hQ.ret (rvs2 (rv_t rfl) (rv_t rfl)) (fun _ _ h => h) fun w hb hs hB hkd => ?_
          first
            | (have h := balR_e (p := p) (w := v) hc17
               exact ⟨none, 0, 0, by rw [h], by rw [h]; exact Fresh.nil hb⟩)
            | (have h : balR xs p v = ([], 9) := balR_9 (Decidable.not_not.1 hc17) (by first | exact balOk_max (by omega) (by simpa using hs27) | exact balOk_p (by simpa using hs32) | exact balOk_w (by simpa using hc36) | exact balOk_x hx24 (by omega) | exact balOk_p (by simpa using hs31) | exact balOk_w (by simpa using hc34))
               exact ⟨none, 0, 0, by rw [h], by rw [h]; exact Fresh.nil hb⟩)
            | (have hk' : k = xs.length := by omega
               subst hk'
               rw [balR_0 hE hO]
               refine ⟨oa, _, oc, rfl, hb, ?_⟩
               have := hs.ok 9 _ rfl
               rw [List.take_length] at this
               exact this)
        · have phs32 := hs32; try simp only [decide_eq_true_eq, decide_eq_false_iff_not, Bool.not_eq_true', Bool.not_eq_false', Bool.not_true, Bool.not_false] at phs32
          refine ol_g rfl rfl hs32 ?_
          refine ol_r (r_move rfl) rfl ?_
          refine ol_g rfl rfl hs32 ?_
          refine ol_call rfl rfl cb67 rfl (fun w1 hb1 hs1 hB1 => Calls.mono (load_in _ _ _ _) ?_)
          rintro e w2 ⟨rfl, hb2⟩
          refine After.below rfl hb1 hs1 hB1 hb2 ?_
          clear hb2 hB1 hs1 hb1 w2 w1
          refine ol_g rfl rfl hs32 ?_
          refine ol_r (r_not rfl) rfl ?_
          refine ol_r (r_pickF rfl hs32 rfl) rfl ?_
          refine ol_nil (to_k0 (fun _ _ h => h) (hK7 _ _ _ ?_))
          clear hK7
          first | refine wp_condD rfl (fun hc36 => ?_) (fun hc36 => ?_) | refine wp_condN rfl (fun hc36 => ?_) (fun hc36 => ?_) | refine wp_condNB rfl (fun hc36 => ?_) (fun hc36 => ?_) | refine wp_cond' rfl (fun hc36 => ?_) (fun hc36 => ?_)
          · refine wp_seq' fun K10 hK10 => ?_
            refine wp_reg ?_
            refine ol_r (r_assign rfl) rfl ?_
            refine ol_r (r_assign rfl) rfl ?_
            refine ol_nil (to_k0 (fun _ _ h => h) (hK10 _ _ _ ?_))
            clear hK10
            refine hQ.ret (rvs2 (rv_t rfl) (rv_t rfl)) (fun _ _ h => h) fun w hb hs hB hkd => ?_
            first
              | (have h := balR_e (p := p) (w := v) hc17
                 exact ⟨none, 0, 0, by rw [h], by rw [h]; exact Fresh.nil hb⟩)
              | (have h : balR xs p v = ([], 9) := balR_9 (Decidable.not_not.1 hc17) (by first | exact balOk_max (by omega) (by simpa using hs27) | exact balOk_p (by simpa using hs32) | exact balOk_w (by simpa using hc36) | exact balOk_x hx24 (by omega) | exact balOk_p (by simpa using hs31) | exact balOk_w (by simpa using hc34))
                 exact ⟨none, 0, 0, by rw [h], by rw [h]; exact Fresh.nil hb⟩)
              | (have hk' : k = xs.length := by omega
                 subst hk'
                 rw [balR_0 hE hO]
                 refine ⟨oa, _, oc, rfl, hb, ?_⟩
                 have := hs.ok 9 _ rfl
                 rw [List.take_length] at this
                 exact this)
          · refine wp_skip' (to_k0 (fun _ _ h => h) (hK6 _ _ _ ?_))
            clear hK6
            refine wp_seq' fun K11 hK11 => ?_
            refine wp_reg ?_
            refine ol_nilrow 9 3 1 ?_
            refine ol_r (r_assign rfl) rfl ?_
            refine ol_nil (to_k0 (fun _ _ h => h) (hK11 _ _ _ ?_))
            clear hK11
            refine wp_seq' fun K12 hK12 => ?_
            refine wp_reg ?_
            have hE : streamR xs = 0 := Decidable.not_not.1 hc17
            have hok := streamR_ok hE
            have hO : balOk xs p v = true := by
              refine balOk_all (max_all fun h0 => ?_) (by simp_all) (by simp_all)
              first
                | (simpa using hs27; done)
                | (exfalso; simp_all; done)
                | (exfalso; omega)
            obtain ⟨hO1, hO2, hO3⟩ := balOk_ok hO
            refine ol_r (r_move rfl) rfl ?_
            refine ol_r (r_assign rfl) rfl ?_
            refine ol_nil (to_k0 (fun _ _ h => h) (hK12 _ _ _ ?_))
            clear hK12
            refine wp_seq' fun K13 hK13 => ?_
            refine wp_seq' fun K14 hK14 => ?_
            refine wp_reg ?_
            refine ol_r (r_move rfl) rfl ?_
            refine ol_r (r_len rfl sl22) rfl ?_
            refine ol_r (r_move rfl) rfl ?_
            refine ol_nil (to_k0 (fun _ _ h => h) (hK14 _ _ _ ?_))
            clear hK14
            refine wp_block' ?_
            apply wp_loopM (σ := Nat × Int × Option Addr × Nat) (fun s => s.1 ≤ xs.length ∧ s.2.1 = balF p v xs s.1) (fun s => [(40, .int .i64 s.1), (10, .int .i64 s.2.1), (9, .slice s.2.2.1 s.1 s.2.2.2)]) [(1, _), (2, _), (6, _), (7, _), (38, _), (39, _)] (fun s => [(9, .row s.2.2.1 s.1 s.2.2.2 (encI.enc (scanG (balS p v) v (xs.take s.1))) 3 1)]) [] (fun s => xs.length - s.1) ((0, v, none, 0))
            · try dsimp only
              exact ⟨Nat.zero_le _, (balF_zero _ _ _).symm⟩
            · exact (sub_cons rfl (sub_cons rfl (sub_cons rfl sub_nil)))
            · exact (sub_cons rfl (sub_cons rfl (sub_cons rfl (sub_cons rfl (sub_cons rfl (sub_cons rfl sub_nil))))))
            · exact (subH_row rfl (by first | (dsimp only; rfl; done) | (rfl; done) | (dsimp only; done)) subH_nil)
            · exact subH_nil
            · rintro ⟨k, cur, oa, oc⟩ ⟨hk, hcur⟩
              dsimp only at hk hcur ⊢
              intro K15 hK15
              refine wp_seq' fun K16 hK16 => ?_
              refine wp_reg ?_
              refine ol_r (r_lss rfl rfl) rfl ?_
              refine ol_nil (to_k0 (fun _ _ h => h) (hK16 _ _ _ ?_))
              clear hK16
              refine wp_seq' fun K17 hK17 => ?_
              first | refine wp_condD rfl (fun hc41 => ?_) (fun hc41 => ?_) | refine wp_condN rfl (fun hc41 => ?_) (fun hc41 => ?_) | refine wp_condNB rfl (fun hc41 => ?_) (fun hc41 => ?_) | refine wp_cond' rfl (fun hc41 => ?_) (fun hc41 => ?_)
              · refine wp_skip' (to_k0 (fun _ _ h => h) (hK17 _ _ _ ?_))
                clear hK17
                refine wp_seq' fun K18 hK18 => ?_
                refine wp_block' ?_
                refine wp_seq' fun K19 hK19 => ?_
                refine wp_reg ?_
                refine ol_ixr hl rfl rfl sl22 (by omega) rfl fun x42 hx42 => ?_
                try simp only [Int.toNat_natCast] at hx42
                refine ol_r (r_ldw rfl (fun w1 hb1 hs1 hB1 => show Loads _ _ _ _ (.int .i64 x42) from Rd.loads hl ty3 hx42 hb1)) rfl ?_
                refine ol_r (r_assign rfl) rfl ?_
                refine ol_nil (to_k0 (fun _ _ h => h) (hK19 _ _ _ ?_))
                clear hK19
                refine wp_seq' fun K20 hK20 => ?_
                refine wp_reg ?_
                have qx := hO1 _ (List.mem_of_getElem? hx42)
                have qb := balF_bd hO2.1 hO3.1 hO1 k hk
                rw [← hcur] at qb
                refine ol_r (r_move rfl) rfl ?_
                refine ol_r (r_max rfl rfl) rfl ?_
                refine ol_r (r_assign rfl) rfl ?_
                refine ol_nil (to_k0 (fun _ _ h => h) (hK20 _ _ _ ?_))
                clear hK20
                refine wp_seq' fun K21 hK21 => ?_
                refine wp_seq' fun K22 hK22 => ?_
                refine wp_reg ?_
                refine ol_r (r_move rfl) rfl ?_
                refine ol_r (r_move rfl) rfl ?_
                refine ol_r (r_gtr rfl rfl) rfl ?_
                refine ol_nil (to_k0 (fun _ _ h => h) (hK22 _ _ _ ?_))
                clear hK22
                first | refine wp_condD rfl (fun hc48 => ?_) (fun hc48 => ?_) | refine wp_condN rfl (fun hc48 => ?_) (fun hc48 => ?_) | refine wp_condNB rfl (fun hc48 => ?_) (fun hc48 => ?_) | refine wp_cond' rfl (fun hc48 => ?_) (fun hc48 => ?_)
                · refine wp_reg ?_
                  refine ol_r (r_move rfl) rfl ?_
                  refine ol_r (r_move rfl) rfl ?_
                  refine ol_r (r_move rfl) rfl ?_
                  refine ol_r (r_sub rfl rfl (by omega)) rfl ?_
                  refine ol_r (r_sub rfl rfl (by omega)) rfl ?_
                  refine ol_r (r_assign rfl) rfl ?_
                  refine ol_nil (to_k0 (fun _ _ h => h) (hK21 _ _ _ ?_))
                  clear hK21
                  refine wp_reg ?_
                  refine ol_r (r_move rfl) rfl ?_
                  refine ol_r (r_move rfl) rfl ?_
                  refine ol_bs1 69 rfl rfl rw22 rfl rfl rfl fun a69 => ?_
                  refine ol_append1 (id := 9) (id2 := 69) rfl rfl rfl rfl rfl rw22 (by omega) rfl fun a70 c70 => ?_
                  refine ol_r (r_assign rfl) rfl ?_
                  refine ol_nil (to_k0 (fun _ _ h => h) (hK18 _ _ _ ?_))
                  clear hK18
                  refine wp_reg ?_
                  refine ol_r (r_add rfl rfl (by omega)) rfl ?_
                  refine ol_r (r_move rfl) rfl ?_
                  refine ol_nil (to_k0 (fun _ _ h => h) (hK15 ((k + 1, _, _, _)) _ _ ?_ ?_ (sub_cons rfl (sub_cons rfl (sub_cons rfl sub_nil))) (sub_cons rfl (sub_cons rfl (sub_cons rfl (sub_cons rfl (sub_cons rfl (sub_cons rfl sub_nil)))))) (by exact (subH_row rfl (by first | (dsimp only; rw [take_succ_get hx42, scanG_snoc, encI_snoc]; first | (rw [show balS p v ((xs.take k).foldl (balS p v) v) x42 = _ from balS_a hc48]; rw [hcur]; rfl) | (rw [show balS p v ((xs.take k).foldl (balS p v) v) x42 = _ from balS_b hc48]; rw [hcur]; rfl); done) | (rw [take_succ_get hx42, scanG_snoc, encI_snoc]; first | (rw [show balS p v ((xs.take k).foldl (balS p v) v) x42 = _ from balS_a hc48]; rw [hcur]; rfl) | (rw [show balS p v ((xs.take k).foldl (balS p v) v) x42 = _ from balS_b hc48]; rw [hcur]; rfl); done) | (dsimp only; done)) subH_nil)) subH_nil))
                  · try dsimp only
                    first
                      | exact ⟨by omega, by rw [balF_succ hx42, balS_a hc48, hcur]⟩
                      | exact ⟨by omega, by rw [balF_succ hx42, balS_b hc48, hcur]⟩
                  · try dsimp only
                    omega
                · refine wp_reg ?_
                  refine ol_r (r_move rfl) rfl ?_
                  refine ol_r (r_move rfl) rfl ?_
                  refine ol_r (r_move rfl) rfl ?_
                  refine ol_r (r_sub rfl rfl (by omega)) rfl ?_
                  refine ol_r (r_move rfl) rfl ?_
                  refine ol_r (r_move rfl) rfl ?_
                  refine ol_r (r_sub rfl rfl (by omega)) rfl ?_
                  have qm := mul_bd (a := p - max x42 0) (b := v - cur) (A := 10000) (B := 20000000000) (by omega) (by omega) (by omega) (by omega)
                  refine ol_r (r_mul rfl rfl (by omega)) rfl ?_
                  refine ol_r (r_move rfl) rfl ?_
                  first | refine ol_r (r_quo rfl rfl (by omega)) rfl ?_ | refine ol_r (r_tquo rfl rfl (by omega)) rfl ?_
                  have qd : 0 ≤ (p - max x42 0) * (v - cur) / v := Int.ediv_nonneg qm.1 (by omega)
                  have qe : (p - max x42 0) * (v - cur) / v ≤ (p - max x42 0) * (v - cur) := Int.ediv_le_self _ qm.1
                  refine ol_r (r_add rfl rfl (by omega)) rfl ?_
                  refine ol_r (r_move rfl) rfl ?_
                  refine ol_r (r_min rfl rfl) rfl ?_
                  refine ol_r (r_assign rfl) rfl ?_
                  refine ol_nil (to_k0 (fun _ _ h => h) (hK21 _ _ _ ?_))
                  clear hK21
                  refine wp_reg ?_
                  refine ol_r (r_move rfl) rfl ?_
                  refine ol_r (r_move rfl) rfl ?_
                  refine ol_bs1 69 rfl rfl rw22 rfl rfl rfl fun a69 => ?_
                  refine ol_append1 (id := 9) (id2 := 69) rfl rfl rfl rfl rfl rw22 (by omega) rfl fun a70 c70 => ?_
                  refine ol_r (r_assign rfl) rfl ?_
                  refine ol_nil (to_k0 (fun _ _ h => h) (hK18 _ _ _ ?_))
                  clear hK18
                  refine wp_reg ?_
                  refine ol_r (r_add rfl rfl (by omega)) rfl ?_
                  refine ol_r (r_move rfl) rfl ?_
                  refine ol_nil (to_k0 (fun _ _ h => h) (hK15 ((k + 1, _, _, _)) _ _ ?_ ?_ (sub_cons rfl (sub_cons rfl (sub_cons rfl sub_nil))) (sub_cons rfl (sub_cons rfl (sub_cons rfl (sub_cons rfl (sub_cons rfl (sub_cons rfl sub_nil)))))) (by exact (subH_row rfl (by first | (dsimp only; rw [take_succ_get hx42, scanG_snoc, encI_snoc]; first | (rw [show balS p v ((xs.take k).foldl (balS p v) v) x42 = _ from balS_a hc48]; rw [hcur]; rfl) | (rw [show balS p v ((xs.take k).foldl (balS p v) v) x42 = _ from balS_b hc48]; rw [hcur]; rfl); done) | (rw [take_succ_get hx42, scanG_snoc, encI_snoc]; first | (rw [show balS p v ((xs.take k).foldl (balS p v) v) x42 = _ from balS_a hc48]; rw [hcur]; rfl) | (rw [show balS p v ((xs.take k).foldl (balS p v) v) x42 = _ from balS_b hc48]; rw [hcur]; rfl); done) | (dsimp only; done)) subH_nil)) subH_nil))
                  · try dsimp only
                    first
                      | exact ⟨by omega, by rw [balF_succ hx42, balS_a hc48, hcur]⟩
                      | exact ⟨by omega, by rw [balF_succ hx42, balS_b hc48, hcur]⟩
                  · try dsimp only
                    omega
              · refine wp_exit' (to_k0 (fun _ _ h => h) (hK13 _ _ _ ?_))
                clear hK13
                refine wp_seq' fun K23 hK23 => ?_
                refine wp_reg ?_
                refine ol_r (r_move rfl) rfl ?_
                refine ol_r (r_assign rfl) rfl ?_
                refine ol_r (r_assign rfl) rfl ?_
                refine ol_nil (to_k0 (fun _ _ h => h) (hK23 _ _ _ ?_))
                clear hK23
                refine hQ.ret (rvs2 (rv_t rfl) (rv_t rfl)) (fun _ _ h => h) fun w hb hs hB hkd => ?_
                first
                  | (have h := balR_e (p := p) (w := v) hc17
                     exact ⟨none, 0, 0, by rw [h], by rw [h]; exact Fresh.nil hb⟩)
                  | (have h : balR xs p v = ([], 9) := balR_9 (Decidable.not_not.1 hc17) (by first | exact balOk_max (by omega) (by simpa using hs27) | exact balOk_p (by simpa using hs32) | exact balOk_w (by simpa using hc36) | exact balOk_x hx24 (by omega) | exact balOk_p (by simpa using hs31) | exact balOk_w (by simpa using hc34))
                     exact ⟨none, 0, 0, by rw [h], by rw [h]; exact Fresh.nil hb⟩)
                  | (have hk' : k = xs.length := by omega
                     subst hk'
                     rw [balR_0 hE hO]
                     refine ⟨oa, _, oc, rfl, hb, ?_⟩
                     have := hs.ok 9 _ rfl
                     rw [List.take_length] at this
                     exact this)
    · have phs22 := hs22; try simp only [decide_eq_true_eq, decide_eq_false_iff_not, Bool.not_eq_true', Bool.not_eq_false', Bool.not_true, Bool.not_false] at phs22
      refine ol_s rfl rfl hs22 rfl ?_
      refine ol_s rfl rfl hs22 rfl ?_
      refine ol_s rfl rfl hs22 rfl ?_
      refine ol_r (r_pickF rfl hs22 rfl) rfl ?_
      refine ol_r (r_move rfl) rfl ?_
      refine ol_g rfl rfl rfl ?_
      refine ol_r (r_move rfl) rfl ?_
      refine ol_g rfl rfl rfl ?_
      refine ol_call rfl rfl cb67 rfl (fun w1 hb1 hs1 hB1 => Calls.mono (load_in _ _ _ _) ?_)
      rintro e w2 ⟨rfl, hb2⟩
      refine After.below rfl hb1 hs1 hB1 hb2 ?_
      clear hb2 hB1 hs1 hb1 w2 w1
      refine ol_g rfl rfl rfl ?_
      refine ol_r (r_not rfl) rfl ?_
      refine ol_r (r_pickF rfl rfl rfl) rfl ?_
      refine ol_r (r_move rfl) rfl ?_
      refine ol_split (d := 32) rfl (fun hs32 => ?_) (fun hs32 => ?_)
      · have phs32 := hs32; try simp only [decide_eq_true_eq, decide_eq_false_iff_not, Bool.not_eq_true', Bool.not_eq_false', Bool.not_true, Bool.not_false] at phs32
        refine ol_s rfl rfl hs32 rfl ?_
        refine ol_s rfl rfl hs32 rfl ?_
        refine ol_s rfl rfl hs32 rfl ?_
        refine ol_r (r_pickT rfl hs32 rfl) rfl ?_
        refine ol_nil (to_k0 (fun _ _ h => h) (hK7 _ _ _ ?_))
        clear hK7
        refine wp_condT rfl ?_
        refine wp_seq' fun K24 hK24 => ?_
        refine wp_reg ?_
        refine ol_r (r_assign rfl) rfl ?_
        refine ol_r (r_assign rfl) rfl ?_
        refine ol_nil (to_k0 (fun _ _ h => h) (hK24 _ _ _ ?_))
        clear hK24
        refine hQ.ret (rvs2 (rv_t rfl) (rv_t rfl)) (fun _ _ h => h) fun w hb hs hB hkd => ?_
        first
          | (have h := balR_e (p := p) (w := v) hc17
             exact ⟨none, 0, 0, by rw [h], by rw [h]; exact Fresh.nil hb⟩)
          | (have h : balR xs p v = ([], 9) := balR_9 (Decidable.not_not.1 hc17) (by first | exact balOk_max (by omega) (by simpa using hs27) | exact balOk_p (by simpa using hs32) | exact balOk_w (by simpa using hc36) | exact balOk_x hx24 (by omega) | exact balOk_p (by simpa using hs31) | exact balOk_w (by simpa using hc34))
             exact ⟨none, 0, 0, by rw [h], by rw [h]; exact Fresh.nil hb⟩)
          | (have hk' : k = xs.length := by omega
             subst hk'
             rw [balR_0 hE hO]
             refine ⟨oa, _, oc, rfl, hb, ?_⟩
             have := hs.ok 9 _ rfl
             rw [List.take_length] at this
             exact this)
      · have phs32 := hs32; try simp only [decide_eq_true_eq, decide_eq_false_iff_not, Bool.not_eq_true', Bool.not_eq_false', Bool.not_true, Bool.not_false] at phs32
        refine ol_g rfl rfl hs32 ?_
        refine ol_r (r_move rfl) rfl ?_
        refine ol_g rfl rfl hs32 ?_
        refine ol_call rfl rfl cb67 rfl (fun w1 hb1 hs1 hB1 => Calls.mono (load_in _ _ _ _) ?_)
        rintro e w2 ⟨rfl, hb2⟩
        refine After.below rfl hb1 hs1 hB1 hb2 ?_
        clear hb2 hB1 hs1 hb1 w2 w1
        refine ol_g rfl rfl hs32 ?_
        refine ol_r (r_not rfl) rfl ?_
        refine ol_r (r_pickF rfl hs32 rfl) rfl ?_
        refine ol_nil (to_k0 (fun _ _ h => h) (hK7 _ _ _ ?_))
        clear hK7
        first | refine wp_condD rfl (fun hc36 => ?_) (fun hc36 => ?_) | refine wp_condN rfl (fun hc36 => ?_) (fun hc36 => ?_) | refine wp_condNB rfl (fun hc36 => ?_) (fun hc36 => ?_) | refine wp_cond' rfl (fun hc36 => ?_) (fun hc36 => ?_)
        · refine wp_seq' fun K25 hK25 => ?_
          refine wp_reg ?_
          refine ol_r (r_assign rfl) rfl ?_
          refine ol_r (r_assign rfl) rfl ?_
          refine ol_nil (to_k0 (fun _ _ h => h) (hK25 _ _ _ ?_))
          clear hK25
          refine hQ.ret (rvs2 (rv_t rfl) (rv_t rfl)) (fun _ _ h => h) fun w hb hs hB hkd => ?_
          first
            | (have h := balR_e (p := p) (w := v) hc17
               exact ⟨none, 0, 0, by rw [h], by rw [h]; exact Fresh.nil hb⟩)
            | (have h : balR xs p v = ([], 9) := balR_9 (Decidable.not_not.1 hc17) (by first | exact balOk_max (by omega) (by simpa using hs27) | exact balOk_p (by simpa using hs32) | exact balOk_w (by simpa using hc36) | exact balOk_x hx24 (by omega) | exact balOk_p (by simpa using hs31) | exact balOk_w (by simpa using hc34))
               exact ⟨none, 0, 0, by rw [h], by rw [h]; exact Fresh.nil hb⟩)
            | (have hk' : k = xs.length := by omega
               subst hk'
               rw [balR_0 hE hO]
               refine ⟨oa, _, oc, rfl, hb, ?_⟩
               have := hs.ok 9 _ rfl
               rw [List.take_length] at this
               exact this)
        · refine wp_skip' (to_k0 (fun _ _ h => h) (hK6 _ _ _ ?_))
          clear hK6
          refine wp_seq' fun K26 hK26 => ?_
          refine wp_reg ?_
          refine ol_nilrow 9 3 1 ?_
          refine ol_r (r_assign rfl) rfl ?_
          refine ol_nil (to_k0 (fun _ _ h => h) (hK26 _ _ _ ?_))
          clear hK26
          refine wp_seq' fun K27 hK27 => ?_
          refine wp_reg ?_
          have hE : streamR xs = 0 := Decidable.not_not.1 hc17
          have hok := streamR_ok hE
          have hO : balOk xs p v = true := by
            refine balOk_all (max_all fun h0 => ?_) (by simp_all) (by simp_all)
            first
              | (simpa using hs27; done)
              | (exfalso; simp_all; done)
              | (exfalso; omega)
          obtain ⟨hO1, hO2, hO3⟩ := balOk_ok hO
          refine ol_r (r_move rfl) rfl ?_
          refine ol_r (r_assign rfl) rfl ?_
          refine ol_nil (to_k0 (fun _ _ h => h) (hK27 _ _ _ ?_))
          clear hK27
          refine wp_seq' fun K28 hK28 => ?_
          refine wp_seq' fun K29 hK29 => ?_
          refine wp_reg ?_
          refine ol_r (r_move rfl) rfl ?_
          refine ol_r (r_len rfl sl22) rfl ?_
          refine ol_r (r_move rfl) rfl ?_
          refine ol_nil (to_k0 (fun _ _ h => h) (hK29 _ _ _ ?_))
          clear hK29
          refine wp_block' ?_
          apply wp_loopM (σ := Nat × Int × Option Addr × Nat) (fun s => s.1 ≤ xs.length ∧ s.2.1 = balF p v xs s.1) (fun s => [(40, .int .i64 s.1), (10, .int .i64 s.2.1), (9, .slice s.2.2.1 s.1 s.2.2.2)]) [(1, _), (2, _), (6, _), (7, _), (38, _), (39, _)] (fun s => [(9, .row s.2.2.1 s.1 s.2.2.2 (encI.enc (scanG (balS p v) v (xs.take s.1))) 3 1)]) [] (fun s => xs.length - s.1) ((0, v, none, 0))
          · try dsimp only
            exact ⟨Nat.zero_le _, (balF_zero _ _ _).symm⟩
          · exact (sub_cons rfl (sub_cons rfl (sub_cons rfl sub_nil)))
          · exact (sub_cons rfl (sub_cons rfl (sub_cons rfl (sub_cons rfl (sub_cons rfl (sub_cons rfl sub_nil))))))
          · exact (subH_row rfl (by first | (dsimp only; rfl; done) | (rfl; done) | (dsimp only; done)) subH_nil)
          · exact subH_nil
          · rintro ⟨k, cur, oa, oc⟩ ⟨hk, hcur⟩
            dsimp only at hk hcur ⊢
            intro K30 hK30
            refine wp_seq' fun K31 hK31 => ?_
            refine wp_reg ?_
            refine ol_r (r_lss rfl rfl) rfl ?_
            refine ol_nil (to_k0 (fun _ _ h => h) (hK31 _ _ _ ?_))
            clear hK31
            refine wp_seq' fun K32 hK32 => ?_
            first | refine wp_condD rfl (fun hc41 => ?_) (fun hc41 => ?_) | refine wp_condN rfl (fun hc41 => ?_) (fun hc41 => ?_) | refine wp_condNB rfl (fun hc41 => ?_) (fun hc41 => ?_) | refine wp_cond' rfl (fun hc41 => ?_) (fun hc41 => ?_)
            · refine wp_skip' (to_k0 (fun _ _ h => h) (hK32 _ _ _ ?_))
              clear hK32
              refine wp_seq' fun K33 hK33 => ?_
              refine wp_block' ?_
              refine wp_seq' fun K34 hK34 => ?_
              refine wp_reg ?_
              refine ol_ixr hl rfl rfl sl22 (by omega) rfl fun x42 hx42 => ?_
              try simp only [Int.toNat_natCast] at hx42
              refine ol_r (r_ldw rfl (fun w1 hb1 hs1 hB1 => show Loads _ _ _ _ (.int .i64 x42) from Rd.loads hl ty3 hx42 hb1)) rfl ?_
              refine ol_r (r_assign rfl) rfl ?_
              refine ol_nil (to_k0 (fun _ _ h => h) (hK34 _ _ _ ?_))
              clear hK34
              refine wp_seq' fun K35 hK35 => ?_
              refine wp_reg ?_
              have qx := hO1 _ (List.mem_of_getElem? hx42)
              have qb := balF_bd hO2.1 hO3.1 hO1 k hk
              rw [← hcur] at qb
              refine ol_r (r_move rfl) rfl ?_
              refine ol_r (r_max rfl rfl) rfl ?_
              refine ol_r (r_assign rfl) rfl ?_
              refine ol_nil (to_k0 (fun _ _ h => h) (hK35 _ _ _ ?_))
              clear hK35
              refine wp_seq' fun K36 hK36 => ?_
              refine wp_seq' fun K37 hK37 => ?_
              refine wp_reg ?_
              refine ol_r (r_move rfl) rfl ?_
              refine ol_r (r_move rfl) rfl ?_
              refine ol_r (r_gtr rfl rfl) rfl ?_
              refine ol_nil (to_k0 (fun _ _ h => h) (hK37 _ _ _ ?_))
              clear hK37
              first | refine wp_condD rfl (fun hc48 => ?_) (fun hc48 => ?_) | refine wp_condN rfl (fun hc48 => ?_) (fun hc48 => ?_) | refine wp_condNB rfl (fun hc48 => ?_) (fun hc48 => ?_) | refine wp_cond' rfl (fun hc48 => ?_) (fun hc48 => ?_)
              · refine wp_reg ?_
                refine ol_r (r_move rfl) rfl ?_
                refine ol_r (r_move rfl) rfl ?_
                refine ol_r (r_move rfl) rfl ?_
                refine ol_r (r_sub rfl rfl (by omega)) rfl ?_
                refine ol_r (r_sub rfl rfl (by omega)) rfl ?_
                refine ol_r (r_assign rfl) rfl ?_
                refine ol_nil (to_k0 (fun _ _ h => h) (hK36 _ _ _ ?_))
                clear hK36
                refine wp_reg ?_
                refine ol_r (r_move rfl) rfl ?_
                refine ol_r (r_move rfl) rfl ?_
                refine ol_bs1 69 rfl rfl rw22 rfl rfl rfl fun a69 => ?_
                refine ol_append1 (id := 9) (id2 := 69) rfl rfl rfl rfl rfl rw22 (by omega) rfl fun a70 c70 => ?_
                refine ol_r (r_assign rfl) rfl ?_
                refine ol_nil (to_k0 (fun _ _ h => h) (hK33 _ _ _ ?_))
                clear hK33
                refine wp_reg ?_
                refine ol_r (r_add rfl rfl (by omega)) rfl ?_
                refine ol_r (r_move rfl) rfl ?_
                refine ol_nil (to_k0 (fun _ _ h => h) (hK30 ((k + 1, _, _, _)) _ _ ?_ ?_ (sub_cons rfl (sub_cons rfl (sub_cons rfl sub_nil))) (sub_cons rfl (sub_cons rfl (sub_cons rfl (sub_cons rfl (sub_cons rfl (sub_cons rfl sub_nil)))))) (by exact (subH_row rfl (by first | (dsimp only; rw [take_succ_get hx42, scanG_snoc, encI_snoc]; first | (rw [show balS p v ((xs.take k).foldl (balS p v) v) x42 = _ from balS_a hc48]; rw [hcur]; rfl) | (rw [show balS p v ((xs.take k).foldl (balS p v) v) x42 = _ from balS_b hc48]; rw [hcur]; rfl); done) | (rw [take_succ_get hx42, scanG_snoc, encI_snoc]; first | (rw [show balS p v ((xs.take k).foldl (balS p v) v) x42 = _ from balS_a hc48]; rw [hcur]; rfl) | (rw [show balS p v ((xs.take k).foldl (balS p v) v) x42 = _ from balS_b hc48]; rw [hcur]; rfl); done) | (dsimp only; done)) subH_nil)) subH_nil))
                · try dsimp only
                  first
                    | exact ⟨by omega, by rw [balF_succ hx42, balS_a hc48, hcur]⟩
                    | exact ⟨by omega, by rw [balF_succ hx42, balS_b hc48, hcur]⟩
                · try dsimp only
                  omega
              · refine wp_reg ?_
                refine ol_r (r_move rfl) rfl ?_
                refine ol_r (r_move rfl) rfl ?_
                refine ol_r (r_move rfl) rfl ?_
                refine ol_r (r_sub rfl rfl (by omega)) rfl ?_
                refine ol_r (r_move rfl) rfl ?_
                refine ol_r (r_move rfl) rfl ?_
                refine ol_r (r_sub rfl rfl (by omega)) rfl ?_
                have qm := mul_bd (a := p - max x42 0) (b := v - cur) (A := 10000) (B := 20000000000) (by omega) (by omega) (by omega) (by omega)
                refine ol_r (r_mul rfl rfl (by omega)) rfl ?_
                refine ol_r (r_move rfl) rfl ?_
                first | refine ol_r (r_quo rfl rfl (by omega)) rfl ?_ | refine ol_r (r_tquo rfl rfl (by omega)) rfl ?_
                have qd : 0 ≤ (p - max x42 0) * (v - cur) / v := Int.ediv_nonneg qm.1 (by omega)
                have qe : (p - max x42 0) * (v - cur) / v ≤ (p - max x42 0) * (v - cur) := Int.ediv_le_self _ qm.1
                refine ol_r (r_add rfl rfl (by omega)) rfl ?_
                refine ol_r (r_move rfl) rfl ?_
                refine ol_r (r_min rfl rfl) rfl ?_
                refine ol_r (r_assign rfl) rfl ?_
                refine ol_nil (to_k0 (fun _ _ h => h) (hK36 _ _ _ ?_))
                clear hK36
                refine wp_reg ?_
                refine ol_r (r_move rfl) rfl ?_
                refine ol_r (r_move rfl) rfl ?_
                refine ol_bs1 69 rfl rfl rw22 rfl rfl rfl fun a69 => ?_
                refine ol_append1 (id := 9) (id2 := 69) rfl rfl rfl rfl rfl rw22 (by omega) rfl fun a70 c70 => ?_
                refine ol_r (r_assign rfl) rfl ?_
                refine ol_nil (to_k0 (fun _ _ h => h) (hK33 _ _ _ ?_))
                clear hK33
                refine wp_reg ?_
                refine ol_r (r_add rfl rfl (by omega)) rfl ?_
                refine ol_r (r_move rfl) rfl ?_
                refine ol_nil (to_k0 (fun _ _ h => h) (hK30 ((k + 1, _, _, _)) _ _ ?_ ?_ (sub_cons rfl (sub_cons rfl (sub_cons rfl sub_nil))) (sub_cons rfl (sub_cons rfl (sub_cons rfl (sub_cons rfl (sub_cons rfl (sub_cons rfl sub_nil)))))) (by exact (subH_row rfl (by first | (dsimp only; rw [take_succ_get hx42, scanG_snoc, encI_snoc]; first | (rw [show balS p v ((xs.take k).foldl (balS p v) v) x42 = _ from balS_a hc48]; rw [hcur]; rfl) | (rw [show balS p v ((xs.take k).foldl (balS p v) v) x42 = _ from balS_b hc48]; rw [hcur]; rfl); done) | (rw [take_succ_get hx42, scanG_snoc, encI_snoc]; first | (rw [show balS p v ((xs.take k).foldl (balS p v) v) x42 = _ from balS_a hc48]; rw [hcur]; rfl) | (rw [show balS p v ((xs.take k).foldl (balS p v) v) x42 = _ from balS_b hc48]; rw [hcur]; rfl); done) | (dsimp only; done)) subH_nil)) subH_nil))
                · try dsimp only
                  first
                    | exact ⟨by omega, by rw [balF_succ hx42, balS_a hc48, hcur]⟩
                    | exact ⟨by omega, by rw [balF_succ hx42, balS_b hc48, hcur]⟩
                · try dsimp only
                  omega
            · refine wp_exit' (to_k0 (fun _ _ h => h) (hK28 _ _ _ ?_))
              clear hK28
              refine wp_seq' fun K38 hK38 => ?_
              refine wp_reg ?_
              refine ol_r (r_move rfl) rfl ?_
              refine ol_r (r_assign rfl) rfl ?_
              refine ol_r (r_assign rfl) rfl ?_
              refine ol_nil (to_k0 (fun _ _ h => h) (hK38 _ _ _ ?_))
              clear hK38
              refine hQ.ret (rvs2 (rv_t rfl) (rv_t rfl)) (fun _ _ h => h) fun w hb hs hB hkd => ?_
              first
                | (have h := balR_e (p := p) (w := v) hc17
                   exact ⟨none, 0, 0, by rw [h], by rw [h]; exact Fresh.nil hb⟩)
                | (have h : balR xs p v = ([], 9) := balR_9 (Decidable.not_not.1 hc17) (by first | exact balOk_max (by omega) (by simpa using hs27) | exact balOk_p (by simpa using hs32) | exact balOk_w (by simpa using hc36) | exact balOk_x hx24 (by omega) | exact balOk_p (by simpa using hs31) | exact balOk_w (by simpa using hc34))
                   exact ⟨none, 0, 0, by rw [h], by rw [h]; exact Fresh.nil hb⟩)
                | (have hk' : k = xs.length := by omega
                   subst hk'
                   rw [balR_0 hE hO]
                   refine ⟨oa, _, oc, rfl, hb, ?_⟩
                   have := hs.ok 9 _ rfl
                   rw [List.take_length] at this
                   exact this)
theorem load_Empty1 (x : Int) (w : World) : Calls Try.prog 78 ([Value.int .i64 x] ++ []).toArray w fun e w2 => e = .returned (.bool (decide (x < 0))) ∧ Below w.heap.size w w2 := by
  refine enterQ (N := 5) (C := fun _ => True) (H := []) (B := w.heap.size) (args := [_]) Try.func78 rfl rfl rfl (Nat.le_refl _) (Sat.nil _ _) fun Q hQ => ?_
  refine wp_seq' fun K1 hK1 => ?_
  refine wp_reg ?_
  refine ol_r (r_assign rfl) rfl ?_
  refine ol_nil (to_k0 (fun _ _ h => h) (hK1 _ _ _ ?_))
  clear hK1
  refine wp_seq' fun K2 hK2 => ?_
  refine wp_reg ?_
  refine ol_r (r_move rfl) rfl ?_
  refine ol_r (r_lss rfl rfl) rfl ?_
  refine ol_r (r_assign rfl) rfl ?_
  refine ol_nil (to_k0 (fun _ _ h => h) (hK2 _ _ _ ?_))
  clear hK2
  refine hQ.ret (rvs1 (rv_t rfl)) (fun _ _ h => h) fun w hb hs hB hkd => ?_
  exact ⟨rfl, hb⟩
def emptyR (xs : List Int) (p w : Int) : Int × Bool × Int :=
  if (balR xs p w).2 ≠ 0 then (0, false, (balR xs p w).2) else (max (idxP (fun x => decide (x < 0)) (balR xs p w).1) 0, decide (0 ≤ idxP (fun x => decide (x < 0)) (balR xs p w).1), 0)
theorem load_Empty (a : Option Addr) (n cap : Nat) (xs : List Int) (p v : Int) (w : World) (hl : Rd encI w.heap.size w a n cap xs) :
    Calls Try.prog 32 #[.slice a n cap, .int .i64 p, .int .i64 v] w fun e w' =>
      e = .returned (.tuple #[.int .i64 (emptyR xs p v).1, .bool (emptyR xs p v).2.1, .int .i64 (emptyR xs p v).2.2]) ∧ Below w.heap.size w w' := by
  refine enterQ (N := 28) (C := fun _ => True) (H := []) (B := w.heap.size) (args := [_, _, _]) Try.func32 rfl rfl rfl (Nat.le_refl _) (Sat.nil _ _) fun Q hQ => ?_
  refine wp_seq' fun K1 hK1 => ?_
  refine wp_reg ?_
  refine ol_r (r_assign rfl) rfl ?_
  refine ol_r (r_assign rfl) rfl ?_
  refine ol_r (r_assign rfl) rfl ?_
  refine ol_nil (to_k0 (fun _ _ h => h) (hK1 _ _ _ ?_))
  clear hK1
  refine wp_seq' fun K2 hK2 => ?_
  refine wp_reg ?_
  refine ol_r (r_move rfl) rfl ?_
  refine ol_r (r_move rfl) rfl ?_
  refine ol_r (r_move rfl) rfl ?_
  refine ol_call rfl rfl cb30 rfl (fun w1 hb1 hs1 hB1 => Calls.mono (load_Balance _ _ _ xs _ _ _ (hl.at hb1 hB1)) ?_)
  rintro e w2 ⟨a16, n16, c16, rfl, hf16⟩
  refine After.fresh (id := 16) rfl hb1 hs1 hB1 hf16 ?_
  have hl16 := hf16.len; clear hf16 hB1 hs1 hb1 w2 w1
  refine ol_r (r_move rfl) rfl ?_
  refine ol_r (r_extract rfl rfl) rfl ?_
  refine ol_r (r_extract rfl rfl) rfl ?_
  refine ol_r (r_assign rfl) rfl ?_
  refine ol_r (r_assign rfl) rfl ?_
  refine ol_nil (to_k0 (fun _ _ h => h) (hK2 _ _ _ ?_))
  clear hK2
  refine wp_seq' fun K3 hK3 => ?_
  refine wp_seq' fun K4 hK4 => ?_
  refine wp_reg ?_
  refine ol_r (r_move rfl) rfl ?_
  refine ol_r (r_neq rfl rfl) rfl ?_
  refine ol_nil (to_k0 (fun _ _ h => h) (hK4 _ _ _ ?_))
  clear hK4
  first | refine wp_condD rfl (fun hc20 => ?_) (fun hc20 => ?_) | refine wp_condN rfl (fun hc20 => ?_) (fun hc20 => ?_) | refine wp_condNB rfl (fun hc20 => ?_) (fun hc20 => ?_) | refine wp_cond' rfl (fun hc20 => ?_) (fun hc20 => ?_)
  · refine wp_seq' fun K5 hK5 => ?_
    refine wp_reg ?_
    refine ol_r (r_move rfl) rfl ?_
    refine ol_r (r_assign rfl) rfl ?_
    refine ol_r (r_assign rfl) rfl ?_
    refine ol_r (r_assign rfl) rfl ?_
    refine ol_nil (to_k0 (fun _ _ h => h) (hK5 _ _ _ ?_))
    clear hK5
    refine hQ.ret (rvs3 (rv_t rfl) (rv_t rfl) (rv_t rfl)) (fun _ _ h => h) fun w hb hs hB hkd => ?_
    exact ⟨by rw [show emptyR xs p v = _ from if_pos hc20], hb⟩
  · refine wp_skip' (to_k0 (fun _ _ h => h) (hK3 _ _ _ ?_))
    clear hK3
    refine wp_seq' fun K6 hK6 => ?_
    refine wp_reg ?_
    refine ol_r (r_move rfl) rfl ?_
    refine ol_call rfl rfl cb77 rfl (fun w1 hb1 hs1 hB1 => Calls.mono (indexFunc_any _ _ _ (balR xs p v).1 78 [] _ _ (Sat.rd hs1 (E := encI) (id := 16) rfl rfl) cb78 (fun x w' _ _ _ => load_Empty1 x w')) ?_)
    rintro e w2 ⟨rfl, hb2⟩
    refine After.below rfl hb1 hs1 hB1 hb2 ?_
    clear hb2 hB1 hs1 hb1 w2 w1
    refine ol_r (r_assign rfl) rfl ?_
    refine ol_nil (to_k0 (fun _ _ h => h) (hK6 _ _ _ ?_))
    clear hK6
    refine wp_seq' fun K7 hK7 => ?_
    refine wp_reg ?_
    refine ol_r (r_move rfl) rfl ?_
    refine ol_r (r_max rfl rfl) rfl ?_
    refine ol_r (r_move rfl) rfl ?_
    refine ol_r (r_geq rfl rfl) rfl ?_
    refine ol_r (r_assign rfl) rfl ?_
    refine ol_r (r_assign rfl) rfl ?_
    refine ol_r (r_assign rfl) rfl ?_
    refine ol_nil (to_k0 (fun _ _ h => h) (hK7 _ _ _ ?_))
    clear hK7
    refine hQ.ret (rvs3 (rv_t rfl) (rv_t rfl) (rv_t rfl)) (fun _ _ h => h) fun w hb hs hB hkd => ?_
    exact ⟨by rw [show emptyR xs p v = _ from if_neg hc20], hb⟩
theorem ref_Balance (a : Option Addr) (n cap : Nat) (xs : List Int) (p v : Int) (w : World) (hl : Rd encI w.heap.size w a n cap xs) :
    Calls Try.prog 31 #[.slice a n cap, .int .i64 p, .int .i64 v] w fun e w' =>
      ∃ b m k, e = .returned (.tuple #[.slice b m k, .int .i64 (balR xs p v).2]) ∧ Fresh encI 3 w w' b m k (balR xs p v).1 := by
  have hn := hl.len
  have hfit := hl.fit
  subst hn
  refine enterQ (N := 71) (C := fun _ => True) (H := []) (B := w.heap.size) (args := [_, _, _]) Try.func31 rfl rfl rfl (Nat.le_refl _) (Sat.nil _ _) fun Q hQ => ?_
  refine wp_seq' fun K1 hK1 => ?_
  refine wp_reg ?_
  refine ol_r (r_assign rfl) rfl ?_
  refine ol_r (r_assign rfl) rfl ?_
  refine ol_nil (to_k0 (fun _ _ h => h) (hK1 _ _ _ ?_))
  clear hK1
  refine wp_seq' fun K2 hK2 => ?_
  refine wp_seq' fun K3 hK3 => ?_
  refine wp_reg ?_
  refine ol_r (r_move rfl) rfl ?_
  refine ol_call rfl rfl cb75 rfl (fun w1 hb1 hs1 hB1 => Calls.mono (ref_CheckStream _ _ _ xs _ (hl.at hb1 hB1)) ?_)
  rintro e w2 ⟨rfl, hb2⟩
  refine After.below rfl hb1 hs1 hB1 hb2 ?_
  clear hb2 hB1 hs1 hb1 w2 w1
  refine ol_r (r_assign rfl) rfl ?_
  refine ol_nil (to_k0 (fun _ _ h => h) (hK3 _ _ _ ?_))
  clear hK3
  refine wp_seq' fun K4 hK4 => ?_
  refine wp_reg ?_
  refine ol_r (r_move rfl) rfl ?_
  refine ol_r (r_neq rfl rfl) rfl ?_
  refine ol_nil (to_k0 (fun _ _ h => h) (hK4 _ _ _ ?_))
  clear hK4
  first | refine wp_condD rfl (fun hc18 => ?_) (fun hc18 => ?_) | refine wp_condN rfl (fun hc18 => ?_) (fun hc18 => ?_) | refine wp_condNB rfl (fun hc18 => ?_) (fun hc18 => ?_) | refine wp_cond' rfl (fun hc18 => ?_) (fun hc18 => ?_)
  · refine wp_seq' fun K5 hK5 => ?_
    refine wp_reg ?_
    refine ol_r (r_move rfl) rfl ?_
    refine ol_r (r_assign rfl) rfl ?_
    refine ol_r (r_assign rfl) rfl ?_
    refine ol_nil (to_k0 (fun _ _ h => h) (hK5 _ _ _ ?_))
    clear hK5
    refine hQ.ret (rvs2 (rv_t rfl) (rv_t rfl)) (fun _ _ h => h) fun w hb hs hB hkd => ?_
    first
      | (have h := balR_e (p := p) (w := v) hc18
         exact ⟨none, 0, 0, by rw [h], by rw [h]; exact Fresh.nil hb⟩)
      | (have h : balR xs p v = ([], 9) := balR_9 (Decidable.not_not.1 hc18) (by first | exact balOk_max (by omega) (by simpa using hs27) | exact balOk_p (by simpa using hs32) | exact balOk_w (by simpa using hc36) | exact balOk_x hx24 (by omega) | exact balOk_p (by simpa using hs31) | exact balOk_w (by simpa using hc34))
         exact ⟨none, 0, 0, by rw [h], by rw [h]; exact Fresh.nil hb⟩)
      | (have hk' : k = xs.length := by omega
         subst hk'
         rw [balR_0 hE hO]
         refine ⟨oa, _, oc, rfl, hb, ?_⟩
         have := hs.ok 12 _ rfl
         rw [List.take_length] at this
         exact this)
  · refine wp_skip' (to_k0 (fun _ _ h => h) (hK2 _ _ _ ?_))
    clear hK2
    refine wp_seq' fun K6 hK6 => ?_
    refine wp_seq' fun K7 hK7 => ?_
    refine wp_reg ?_
    refine ol_r (r_move rfl) rfl ?_
    refine ol_r (r_len rfl sl22) rfl ?_
    refine ol_r (r_move rfl) rfl ?_
    refine ol_nil (to_k0 (fun _ _ h => h) (hK7 _ _ _ ?_))
    clear hK7
    refine wp_block' ?_
    apply wp_loopM (σ := Nat) (fun s => s ≤ xs.length ∧ ∀ x ∈ xs.take s, x ≤ 10000) (fun s => [(22, .int .i64 s)]) [(0, _), (1, _), (2, _), (20, _), (21, _)] (fun s => []) [] (fun s => xs.length - s) (0)
    · try dsimp only
      simp
    · exact (sub_cons rfl sub_nil)
    · exact (sub_cons rfl (sub_cons rfl (sub_cons rfl (sub_cons rfl (sub_cons rfl sub_nil)))))
    · exact subH_nil
    · exact subH_nil
    · rintro k ⟨hk, hP⟩
      intro K8 hK8
      refine wp_seq' fun K9 hK9 => ?_
      refine wp_reg ?_
      refine ol_r (r_lss rfl rfl) rfl ?_
      refine ol_nil (to_k0 (fun _ _ h => h) (hK9 _ _ _ ?_))
      clear hK9
      refine wp_seq' fun K10 hK10 => ?_
      first | refine wp_condD rfl (fun hc23 => ?_) (fun hc23 => ?_) | refine wp_condN rfl (fun hc23 => ?_) (fun hc23 => ?_) | refine wp_condNB rfl (fun hc23 => ?_) (fun hc23 => ?_) | refine wp_cond' rfl (fun hc23 => ?_) (fun hc23 => ?_)
      · refine wp_skip' (to_k0 (fun _ _ h => h) (hK10 _ _ _ ?_))
        clear hK10
        refine wp_seq' fun K11 hK11 => ?_
        refine wp_block' ?_
        refine wp_seq' fun K12 hK12 => ?_
        refine wp_reg ?_
        refine ol_ixr hl rfl rfl sl22 (by omega) rfl fun x24 hx24 => ?_
        try simp only [Int.toNat_natCast] at hx24
        refine ol_r (r_ldw rfl (fun w1 hb1 hs1 hB1 => show Loads _ _ _ _ (.int .i64 x24) from Rd.loads hl ty3 hx24 hb1)) rfl ?_
        refine ol_r (r_assign rfl) rfl ?_
        refine ol_nil (to_k0 (fun _ _ h => h) (hK12 _ _ _ ?_))
        clear hK12
        refine wp_seq' fun K13 hK13 => ?_
        refine wp_reg ?_
        refine ol_r (r_move rfl) rfl ?_
        refine ol_r (r_gtr rfl rfl) rfl ?_
        refine ol_nil (to_k0 (fun _ _ h => h) (hK13 _ _ _ ?_))
        clear hK13
        first | refine wp_condD rfl (fun hc27 => ?_) (fun hc27 => ?_) | refine wp_condN rfl (fun hc27 => ?_) (fun hc27 => ?_) | refine wp_condNB rfl (fun hc27 => ?_) (fun hc27 => ?_) | refine wp_cond' rfl (fun hc27 => ?_) (fun hc27 => ?_)
        · refine wp_seq' fun K14 hK14 => ?_
          refine wp_reg ?_
          refine ol_r (r_assign rfl) rfl ?_
          refine ol_r (r_assign rfl) rfl ?_
          refine ol_nil (to_k0 (fun _ _ h => h) (hK14 _ _ _ ?_))
          clear hK14
          refine hQ.ret (rvs2 (rv_t rfl) (rv_t rfl)) (fun _ _ h => h) fun w hb hs hB hkd => ?_
          first
            | (have h := balR_e (p := p) (w := v) hc18
               exact ⟨none, 0, 0, by rw [h], by rw [h]; exact Fresh.nil hb⟩)
            | (have h : balR xs p v = ([], 9) := balR_9 (Decidable.not_not.1 hc18) (by first | exact balOk_max (by omega) (by simpa using hs27) | exact balOk_p (by simpa using hs32) | exact balOk_w (by simpa using hc36) | exact balOk_x hx24 (by omega) | exact balOk_p (by simpa using hs31) | exact balOk_w (by simpa using hc34))
               exact ⟨none, 0, 0, by rw [h], by rw [h]; exact Fresh.nil hb⟩)
            | (have hk' : k = xs.length := by omega
               subst hk'
               rw [balR_0 hE hO]
               refine ⟨oa, _, oc, rfl, hb, ?_⟩
               have := hs.ok 12 _ rfl
               rw [List.take_length] at this
               exact this)
        · refine wp_skip' (to_k0 (fun _ _ h => h) (hK11 _ _ _ ?_))
          clear hK11
          refine wp_reg ?_
          refine ol_r (r_add rfl rfl (by omega)) rfl ?_
          refine ol_r (r_move rfl) rfl ?_
          refine ol_nil (to_k0 (fun _ _ h => h) (hK8 (k + 1) _ _ ?_ ?_ (sub_cons rfl sub_nil) (sub_cons rfl (sub_cons rfl (sub_cons rfl (sub_cons rfl (sub_cons rfl sub_nil))))) (by exact subH_nil) subH_nil))
          · try dsimp only
            refine ⟨by omega, fun x hx => ?_⟩
            rw [take_succ_get hx24] at hx
            rcases List.mem_append.1 hx with h | h
            · exact hP x h
            · simp at h; omega
          · try dsimp only
            omega
      · refine wp_exit' (to_k0 (fun _ _ h => h) (hK6 _ _ _ ?_))
        clear hK6
        refine wp_seq' fun K15 hK15 => ?_
        refine wp_seq' fun K16 hK16 => ?_
        refine wp_reg ?_
        refine ol_r (r_move rfl) rfl ?_
        refine ol_call rfl rfl cb62 rfl (fun w1 hb1 hs1 hB1 => Calls.mono (ref_outside _ _ _ _) ?_)
        rintro e w2 ⟨rfl, hb2⟩
        refine After.below rfl hb1 hs1 hB1 hb2 ?_
        clear hb2 hB1 hs1 hb1 w2 w1
        refine ol_r (r_move rfl) rfl ?_
        refine ol_split (d := 31) rfl (fun hs31 => ?_) (fun hs31 => ?_)
        · have phs31 := hs31; try simp only [decide_eq_true_eq, decide_eq_false_iff_not, Bool.not_eq_true', Bool.not_eq_false', Bool.not_true, Bool.not_false] at phs31
          refine ol_s rfl rfl hs31 rfl ?_
          refine ol_s rfl rfl hs31 rfl ?_
          refine ol_r (r_pickT rfl hs31 rfl) rfl ?_
          refine ol_nil (to_k0 (fun _ _ h => h) (hK16 _ _ _ ?_))
          clear hK16
          refine wp_condT rfl ?_
          refine wp_seq' fun K17 hK17 => ?_
          refine wp_reg ?_
          refine ol_r (r_assign rfl) rfl ?_
          refine ol_r (r_assign rfl) rfl ?_
          refine ol_nil (to_k0 (fun _ _ h => h) (hK17 _ _ _ ?_))
          clear hK17
          refine hQ.ret (rvs2 (rv_t rfl) (rv_t rfl)) (fun _ _ h => h) fun w hb hs hB hkd => ?_
          first
            | (have h := balR_e (p := p) (w := v) hc18
               exact ⟨none, 0, 0, by rw [h], by rw [h]; exact Fresh.nil hb⟩)
            | (have h : balR xs p v = ([], 9) := balR_9 (Decidable.not_not.1 hc18) (by first | exact balOk_max (by omega) (by simpa using hs27) | exact balOk_p (by simpa using hs32) | exact balOk_w (by simpa using hc36) | exact balOk_x hx24 (by omega) | exact balOk_p (by simpa using hs31) | exact balOk_w (by simpa using hc34))
               exact ⟨none, 0, 0, by rw [h], by rw [h]; exact Fresh.nil hb⟩)
            | (have hk' : k = xs.length := by omega
               subst hk'
               rw [balR_0 hE hO]
               refine ⟨oa, _, oc, rfl, hb, ?_⟩
               have := hs.ok 12 _ rfl
               rw [List.take_length] at this
               exact this)
        · have phs31 := hs31; try simp only [decide_eq_true_eq, decide_eq_false_iff_not, Bool.not_eq_true', Bool.not_eq_false', Bool.not_true, Bool.not_false] at phs31
          refine ol_g rfl rfl hs31 ?_
          refine ol_r (r_move rfl) rfl ?_
          refine ol_g rfl rfl hs31 ?_
          refine ol_call rfl rfl cb62 rfl (fun w1 hb1 hs1 hB1 => Calls.mono (ref_outside _ _ _ _) ?_)
          rintro e w2 ⟨rfl, hb2⟩
          refine After.below rfl hb1 hs1 hB1 hb2 ?_
          clear hb2 hB1 hs1 hb1 w2 w1
          refine ol_r (r_pickF rfl hs31 rfl) rfl ?_
          refine ol_nil (to_k0 (fun _ _ h => h) (hK16 _ _ _ ?_))
          clear hK16
          first | refine wp_condD rfl (fun hc34 => ?_) (fun hc34 => ?_) | refine wp_condN rfl (fun hc34 => ?_) (fun hc34 => ?_) | refine wp_condNB rfl (fun hc34 => ?_) (fun hc34 => ?_) | refine wp_cond' rfl (fun hc34 => ?_) (fun hc34 => ?_)
          · refine wp_seq' fun K18 hK18 => ?_
            refine wp_reg ?_
            refine ol_r (r_assign rfl) rfl ?_
            refine ol_r (r_assign rfl) rfl ?_
            refine ol_nil (to_k0 (fun _ _ h => h) (hK18 _ _ _ ?_))
            clear hK18
            refine hQ.ret (rvs2 (rv_t rfl) (rv_t rfl)) (fun _ _ h => h) fun w hb hs hB hkd => ?_
            first
              | (have h := balR_e (p := p) (w := v) hc18
                 exact ⟨none, 0, 0, by rw [h], by rw [h]; exact Fresh.nil hb⟩)
              | (have h : balR xs p v = ([], 9) := balR_9 (Decidable.not_not.1 hc18) (by first | exact balOk_max (by omega) (by simpa using hs27) | exact balOk_p (by simpa using hs32) | exact balOk_w (by simpa using hc36) | exact balOk_x hx24 (by omega) | exact balOk_p (by simpa using hs31) | exact balOk_w (by simpa using hc34))
                 exact ⟨none, 0, 0, by rw [h], by rw [h]; exact Fresh.nil hb⟩)
              | (have hk' : k = xs.length := by omega
                 subst hk'
                 rw [balR_0 hE hO]
                 refine ⟨oa, _, oc, rfl, hb, ?_⟩
                 have := hs.ok 12 _ rfl
                 rw [List.take_length] at this
                 exact this)
          · refine wp_skip' (to_k0 (fun _ _ h => h) (hK15 _ _ _ ?_))
            clear hK15
            refine wp_seq' fun K19 hK19 => ?_
            refine wp_reg ?_
            have hE : streamR xs = 0 := Decidable.not_not.1 hc18
            have hok := streamR_ok hE
            rw [List.take_of_length_le (by omega)] at hP
            have hO : balOk xs p v = true := balOk_all hP (by simpa using hs31) (by simpa using hc34)
            obtain ⟨hO1, hO2, hO3⟩ := balOk_ok hO
            refine ol_r (r_move rfl) rfl ?_
            refine ol_r (r_assign rfl) rfl ?_
            refine ol_nil (to_k0 (fun _ _ h => h) (hK19 _ _ _ ?_))
            clear hK19
            refine wp_seq' fun K20 hK20 => ?_
            refine wp_reg ?_
            refine ol_nilrow 12 3 1 ?_
            refine ol_r (r_assign rfl) rfl ?_
            refine ol_nil (to_k0 (fun _ _ h => h) (hK20 _ _ _ ?_))
            clear hK20
            refine wp_seq' fun K21 hK21 => ?_
            refine wp_seq' fun K22 hK22 => ?_
            refine wp_reg ?_
            refine ol_r (r_move rfl) rfl ?_
            refine ol_r (r_len rfl sl22) rfl ?_
            refine ol_r (r_move rfl) rfl ?_
            refine ol_nil (to_k0 (fun _ _ h => h) (hK22 _ _ _ ?_))
            clear hK22
            refine wp_block' ?_
            apply wp_loopM (σ := Nat × Int × Option Addr × Nat) (fun s => s.1 ≤ xs.length ∧ s.2.1 = balF p v xs s.1) (fun s => [(38, .int .i64 s.1), (11, .int .i64 s.2.1), (12, .slice s.2.2.1 s.1 s.2.2.2)]) [(1, _), (2, _), (36, _), (37, _)] (fun s => [(12, .row s.2.2.1 s.1 s.2.2.2 (encI.enc (scanG (balS p v) v (xs.take s.1))) 3 1)]) [] (fun s => xs.length - s.1) ((0, v, none, 0))
            · try dsimp only
              exact ⟨Nat.zero_le _, (balF_zero _ _ _).symm⟩
            · exact (sub_cons rfl (sub_cons rfl (sub_cons rfl sub_nil)))
            · exact (sub_cons rfl (sub_cons rfl (sub_cons rfl (sub_cons rfl sub_nil))))
            · exact (subH_row rfl (by first | (dsimp only; rfl; done) | (rfl; done) | (dsimp only; done)) subH_nil)
            · exact subH_nil
            · rintro ⟨k, cur, oa, oc⟩ ⟨hk, hcur⟩
              dsimp only at hk hcur ⊢
              intro K23 hK23
              refine wp_seq' fun K24 hK24 => ?_
              refine wp_reg ?_
              refine ol_r (r_lss rfl rfl) rfl ?_
              refine ol_nil (to_k0 (fun _ _ h => h) (hK24 _ _ _ ?_))
              clear hK24
              refine wp_seq' fun K25 hK25 => ?_
              first | refine wp_condD rfl (fun hc39 => ?_) (fun hc39 => ?_) | refine wp_condN rfl (fun hc39 => ?_) (fun hc39 => ?_) | refine wp_condNB rfl (fun hc39 => ?_) (fun hc39 => ?_) | refine wp_cond' rfl (fun hc39 => ?_) (fun hc39 => ?_)
              · refine wp_skip' (to_k0 (fun _ _ h => h) (hK25 _ _ _ ?_))
                clear hK25
                refine wp_seq' fun K26 hK26 => ?_
                refine wp_block' ?_
                refine wp_seq' fun K27 hK27 => ?_
                refine wp_reg ?_
                refine ol_ixr hl rfl rfl sl22 (by omega) rfl fun x40 hx40 => ?_
                try simp only [Int.toNat_natCast] at hx40
                refine ol_r (r_ldw rfl (fun w1 hb1 hs1 hB1 => show Loads _ _ _ _ (.int .i64 x40) from Rd.loads hl ty3 hx40 hb1)) rfl ?_
                refine ol_r (r_assign rfl) rfl ?_
                refine ol_nil (to_k0 (fun _ _ h => h) (hK27 _ _ _ ?_))
                clear hK27
                refine wp_seq' fun K28 hK28 => ?_
                refine wp_reg ?_
                refine ol_r (r_move rfl) rfl ?_
                refine ol_r (r_max rfl rfl) rfl ?_
                refine ol_r (r_assign rfl) rfl ?_
                refine ol_nil (to_k0 (fun _ _ h => h) (hK28 _ _ _ ?_))
                clear hK28
                refine wp_seq' fun K29 hK29 => ?_
                refine wp_seq' fun K30 hK30 => ?_
                refine wp_reg ?_
                have qx := hO1 _ (List.mem_of_getElem? hx40)
                have qb := balF_bd hO2.1 hO3.1 hO1 k hk
                rw [← hcur] at qb
                refine ol_r (r_move rfl) rfl ?_
                refine ol_r (r_move rfl) rfl ?_
                refine ol_r (r_gtr rfl rfl) rfl ?_
                refine ol_nil (to_k0 (fun _ _ h => h) (hK30 _ _ _ ?_))
                clear hK30
                first | refine wp_condD rfl (fun hc46 => ?_) (fun hc46 => ?_) | refine wp_condN rfl (fun hc46 => ?_) (fun hc46 => ?_) | refine wp_condNB rfl (fun hc46 => ?_) (fun hc46 => ?_) | refine wp_cond' rfl (fun hc46 => ?_) (fun hc46 => ?_)
                · refine wp_reg ?_
                  refine ol_r (r_move rfl) rfl ?_
                  refine ol_r (r_move rfl) rfl ?_
                  refine ol_r (r_move rfl) rfl ?_
                  refine ol_r (r_sub rfl rfl (by omega)) rfl ?_
                  refine ol_r (r_sub rfl rfl (by omega)) rfl ?_
                  refine ol_r (r_assign rfl) rfl ?_
                  refine ol_nil (to_k0 (fun _ _ h => h) (hK29 _ _ _ ?_))
                  clear hK29
                  refine wp_reg ?_
                  refine ol_r (r_move rfl) rfl ?_
                  refine ol_r (r_move rfl) rfl ?_
                  refine ol_bs1 67 rfl rfl rw22 rfl rfl rfl fun a67 => ?_
                  refine ol_append1 (id := 12) (id2 := 67) rfl rfl rfl rfl rfl rw22 (by omega) rfl fun a68 c68 => ?_
                  refine ol_r (r_assign rfl) rfl ?_
                  refine ol_nil (to_k0 (fun _ _ h => h) (hK26 _ _ _ ?_))
                  clear hK26
                  refine wp_reg ?_
                  refine ol_r (r_add rfl rfl (by omega)) rfl ?_
                  refine ol_r (r_move rfl) rfl ?_
                  refine ol_nil (to_k0 (fun _ _ h => h) (hK23 ((k + 1, _, _, _)) _ _ ?_ ?_ (sub_cons rfl (sub_cons rfl (sub_cons rfl sub_nil))) (sub_cons rfl (sub_cons rfl (sub_cons rfl (sub_cons rfl sub_nil)))) (by exact (subH_row rfl (by first | (dsimp only; rw [take_succ_get hx40, scanG_snoc, encI_snoc]; first | (rw [show balS p v ((xs.take k).foldl (balS p v) v) x40 = _ from balS_a hc46]; rw [hcur]; rfl) | (rw [show balS p v ((xs.take k).foldl (balS p v) v) x40 = _ from balS_b hc46, Int.min_comm]; rw [hcur]; rfl); done) | (rw [take_succ_get hx40, scanG_snoc, encI_snoc]; first | (rw [show balS p v ((xs.take k).foldl (balS p v) v) x40 = _ from balS_a hc46]; rw [hcur]; rfl) | (rw [show balS p v ((xs.take k).foldl (balS p v) v) x40 = _ from balS_b hc46, Int.min_comm]; rw [hcur]; rfl); done) | (dsimp only; done)) subH_nil)) subH_nil))
                  · try dsimp only
                    first
                      | exact ⟨by omega, by rw [balF_succ hx40, balS_a hc46, hcur]⟩
                      | exact ⟨by omega, by rw [balF_succ hx40, balS_b hc46, Int.min_comm, hcur]⟩
                  · try dsimp only
                    omega
                · refine wp_reg ?_
                  refine ol_r (r_move rfl) rfl ?_
                  refine ol_r (r_move rfl) rfl ?_
                  refine ol_r (r_move rfl) rfl ?_
                  refine ol_r (r_move rfl) rfl ?_
                  refine ol_r (r_sub rfl rfl (by omega)) rfl ?_
                  refine ol_r (r_move rfl) rfl ?_
                  refine ol_r (r_move rfl) rfl ?_
                  refine ol_r (r_sub rfl rfl (by omega)) rfl ?_
                  have qm := mul_bd (a := p - max x40 0) (b := v - cur) (A := 10000) (B := 20000000000) (by omega) (by omega) (by omega) (by omega)
                  have qd : 0 ≤ (p - max x40 0) * (v - cur) / v := Int.ediv_nonneg qm.1 (by omega)
                  have qe : (p - max x40 0) * (v - cur) / v ≤ (p - max x40 0) * (v - cur) := Int.ediv_le_self _ qm.1
                  refine ol_r (r_mul rfl rfl (by omega)) rfl ?_
                  refine ol_r (r_move rfl) rfl ?_
                  refine ol_call rfl rfl cb76 rfl (fun w1 hb1 hs1 hB1 => Calls.mono (ref_floor _ _ (by omega) (by omega) _) ?_)
                  rintro e w2 ⟨rfl, hb2⟩
                  refine After.below rfl hb1 hs1 hB1 hb2 ?_
                  clear hb2 hB1 hs1 hb1 w2 w1
                  refine ol_r (r_add rfl rfl (by omega)) rfl ?_
                  refine ol_r (r_min rfl rfl) rfl ?_
                  refine ol_r (r_assign rfl) rfl ?_
                  refine ol_nil (to_k0 (fun _ _ h => h) (hK29 _ _ _ ?_))
                  clear hK29
                  refine wp_reg ?_
                  refine ol_r (r_move rfl) rfl ?_
                  refine ol_r (r_move rfl) rfl ?_
                  refine ol_bs1 67 rfl rfl rw22 rfl rfl rfl fun a67 => ?_
                  refine ol_append1 (id := 12) (id2 := 67) rfl rfl rfl rfl rfl rw22 (by omega) rfl fun a68 c68 => ?_
                  refine ol_r (r_assign rfl) rfl ?_
                  refine ol_nil (to_k0 (fun _ _ h => h) (hK26 _ _ _ ?_))
                  clear hK26
                  refine wp_reg ?_
                  refine ol_r (r_add rfl rfl (by omega)) rfl ?_
                  refine ol_r (r_move rfl) rfl ?_
                  refine ol_nil (to_k0 (fun _ _ h => h) (hK23 ((k + 1, _, _, _)) _ _ ?_ ?_ (sub_cons rfl (sub_cons rfl (sub_cons rfl sub_nil))) (sub_cons rfl (sub_cons rfl (sub_cons rfl (sub_cons rfl sub_nil)))) (by exact (subH_row rfl (by first | (dsimp only; rw [take_succ_get hx40, scanG_snoc, encI_snoc]; first | (rw [show balS p v ((xs.take k).foldl (balS p v) v) x40 = _ from balS_a hc46]; rw [hcur]; rfl) | (rw [show balS p v ((xs.take k).foldl (balS p v) v) x40 = _ from balS_b hc46, Int.min_comm]; rw [hcur]; rfl); done) | (rw [take_succ_get hx40, scanG_snoc, encI_snoc]; first | (rw [show balS p v ((xs.take k).foldl (balS p v) v) x40 = _ from balS_a hc46]; rw [hcur]; rfl) | (rw [show balS p v ((xs.take k).foldl (balS p v) v) x40 = _ from balS_b hc46, Int.min_comm]; rw [hcur]; rfl); done) | (dsimp only; done)) subH_nil)) subH_nil))
                  · try dsimp only
                    first
                      | exact ⟨by omega, by rw [balF_succ hx40, balS_a hc46, hcur]⟩
                      | exact ⟨by omega, by rw [balF_succ hx40, balS_b hc46, Int.min_comm, hcur]⟩
                  · try dsimp only
                    omega
              · refine wp_exit' (to_k0 (fun _ _ h => h) (hK21 _ _ _ ?_))
                clear hK21
                refine wp_seq' fun K31 hK31 => ?_
                refine wp_reg ?_
                refine ol_r (r_move rfl) rfl ?_
                refine ol_r (r_assign rfl) rfl ?_
                refine ol_r (r_assign rfl) rfl ?_
                refine ol_nil (to_k0 (fun _ _ h => h) (hK31 _ _ _ ?_))
                clear hK31
                refine hQ.ret (rvs2 (rv_t rfl) (rv_t rfl)) (fun _ _ h => h) fun w hb hs hB hkd => ?_
                first
                  | (have h := balR_e (p := p) (w := v) hc18
                     exact ⟨none, 0, 0, by rw [h], by rw [h]; exact Fresh.nil hb⟩)
                  | (have h : balR xs p v = ([], 9) := balR_9 (Decidable.not_not.1 hc18) (by first | exact balOk_max (by omega) (by simpa using hs27) | exact balOk_p (by simpa using hs32) | exact balOk_w (by simpa using hc36) | exact balOk_x hx24 (by omega) | exact balOk_p (by simpa using hs31) | exact balOk_w (by simpa using hc34))
                     exact ⟨none, 0, 0, by rw [h], by rw [h]; exact Fresh.nil hb⟩)
                  | (have hk' : k = xs.length := by omega
                     subst hk'
                     rw [balR_0 hE hO]
                     refine ⟨oa, _, oc, rfl, hb, ?_⟩
                     have := hs.ok 12 _ rfl
                     rw [List.take_length] at this
                     exact this)
theorem ref_Empty (a : Option Addr) (n cap : Nat) (xs : List Int) (p v : Int) (w : World) (hl : Rd encI w.heap.size w a n cap xs) :
    Calls Try.prog 33 #[.slice a n cap, .int .i64 p, .int .i64 v] w fun e w' =>
      e = .returned (.tuple #[.int .i64 (emptyR xs p v).1, .bool (emptyR xs p v).2.1, .int .i64 (emptyR xs p v).2.2]) ∧ Below w.heap.size w w' := by
  refine enterQ (N := 34) (C := fun _ => True) (H := []) (B := w.heap.size) (args := [_, _, _]) Try.func33 rfl rfl rfl (Nat.le_refl _) (Sat.nil _ _) fun Q hQ => ?_
  refine wp_seq' fun K1 hK1 => ?_
  refine wp_reg ?_
  refine ol_r (r_assign rfl) rfl ?_
  refine ol_r (r_assign rfl) rfl ?_
  refine ol_r (r_assign rfl) rfl ?_
  refine ol_nil (to_k0 (fun _ _ h => h) (hK1 _ _ _ ?_))
  clear hK1
  refine wp_seq' fun K2 hK2 => ?_
  refine wp_reg ?_
  refine ol_r (r_move rfl) rfl ?_
  refine ol_r (r_move rfl) rfl ?_
  refine ol_r (r_move rfl) rfl ?_
  refine ol_call rfl rfl cb31 rfl (fun w1 hb1 hs1 hB1 => Calls.mono (ref_Balance _ _ _ xs _ _ _ (hl.at hb1 hB1)) ?_)
  rintro e w2 ⟨a17, n17, c17, rfl, hf17⟩
  refine After.fresh (id := 17) rfl hb1 hs1 hB1 hf17 ?_
  have hl17 := hf17.len; clear hf17 hB1 hs1 hb1 w2 w1
  refine ol_r (r_move rfl) rfl ?_
  refine ol_r (r_extract rfl rfl) rfl ?_
  refine ol_r (r_extract rfl rfl) rfl ?_
  refine ol_r (r_assign rfl) rfl ?_
  refine ol_r (r_assign rfl) rfl ?_
  refine ol_nil (to_k0 (fun _ _ h => h) (hK2 _ _ _ ?_))
  clear hK2
  refine wp_seq' fun K3 hK3 => ?_
  refine wp_seq' fun K4 hK4 => ?_
  refine wp_reg ?_
  refine ol_r (r_move rfl) rfl ?_
  refine ol_r (r_neq rfl rfl) rfl ?_
  refine ol_nil (to_k0 (fun _ _ h => h) (hK4 _ _ _ ?_))
  clear hK4
  first | refine wp_condD rfl (fun hc21 => ?_) (fun hc21 => ?_) | refine wp_condN rfl (fun hc21 => ?_) (fun hc21 => ?_) | refine wp_condNB rfl (fun hc21 => ?_) (fun hc21 => ?_) | refine wp_cond' rfl (fun hc21 => ?_) (fun hc21 => ?_)
  · refine wp_seq' fun K5 hK5 => ?_
    refine wp_reg ?_
    refine ol_r (r_move rfl) rfl ?_
    refine ol_r (r_assign rfl) rfl ?_
    refine ol_r (r_assign rfl) rfl ?_
    refine ol_r (r_assign rfl) rfl ?_
    refine ol_nil (to_k0 (fun _ _ h => h) (hK5 _ _ _ ?_))
    clear hK5
    refine hQ.ret (rvs3 (rv_t rfl) (rv_t rfl) (rv_t rfl)) (fun _ _ h => h) fun w hb hs hB hkd => ?_
    exact ⟨by rw [show emptyR xs p v = _ from if_pos hc21], hb⟩
  · refine wp_skip' (to_k0 (fun _ _ h => h) (hK3 _ _ _ ?_))
    clear hK3
    refine wp_seq' fun K6 hK6 => ?_
    refine wp_seq' fun K7 hK7 => ?_
    refine wp_reg ?_
    have hlen := balR_len (xs := xs) (p := p) (w := v)
    generalize hys : (balR xs p v).1 = ys at *
    refine ol_r (r_move rfl) rfl ?_
    refine ol_r (r_len rfl sl22) rfl ?_
    refine ol_r (r_move rfl) rfl ?_
    refine ol_nil (to_k0 (fun _ _ h => h) (hK7 _ _ _ ?_))
    clear hK7
    refine wp_block' ?_
    apply wp_loopM (σ := Nat) (fun s => s ≤ n17 ∧ ∀ y ∈ ys.take s, decide (y < 0) = false) (fun s => [(25, .int .i64 s)]) [(23, _), (24, _)] (fun s => []) [(17, _)] (fun s => n17 - s) (0)
    · try dsimp only
      simp
    · exact (sub_cons rfl sub_nil)
    · exact (sub_cons rfl (sub_cons rfl sub_nil))
    · exact subH_nil
    · exact (subH_same rfl subH_nil)
    · rintro k ⟨hk, hP⟩
      intro K8 hK8
      refine wp_seq' fun K9 hK9 => ?_
      refine wp_reg ?_
      refine ol_r (r_lss rfl rfl) rfl ?_
      refine ol_nil (to_k0 (fun _ _ h => h) (hK9 _ _ _ ?_))
      clear hK9
      refine wp_seq' fun K10 hK10 => ?_
      first | refine wp_condD rfl (fun hc26 => ?_) (fun hc26 => ?_) | refine wp_condN rfl (fun hc26 => ?_) (fun hc26 => ?_) | refine wp_condNB rfl (fun hc26 => ?_) (fun hc26 => ?_) | refine wp_cond' rfl (fun hc26 => ?_) (fun hc26 => ?_)
      · refine wp_skip' (to_k0 (fun _ _ h => h) (hK10 _ _ _ ?_))
        clear hK10
        refine wp_seq' fun K11 hK11 => ?_
        refine wp_block' ?_
        refine wp_seq' fun K12 hK12 => ?_
        refine wp_reg ?_
        refine ol_r (r_move rfl) rfl ?_
        refine ol_ixo (id := 17) encI _ rfl rfl rfl rfl sl22 (by omega) rfl fun x28 hx28 => ?_
        try simp only [Int.toNat_natCast] at hx28
        try simp only [Int.toNat_natCast] at hx28
        refine ol_r (r_ldw rfl (fun w1 hb1 hs1 hB1 => show Loads _ _ _ _ (.int .i64 x28) from ld_own (id := 17) hs1 rfl rfl ty3 hx28)) rfl ?_
        refine ol_r (r_assign rfl) rfl ?_
        refine ol_r (r_assign rfl) rfl ?_
        refine ol_nil (to_k0 (fun _ _ h => h) (hK12 _ _ _ ?_))
        clear hK12
        refine wp_seq' fun K13 hK13 => ?_
        refine wp_reg ?_
        refine ol_r (r_move rfl) rfl ?_
        refine ol_r (r_lss rfl rfl) rfl ?_
        refine ol_nil (to_k0 (fun _ _ h => h) (hK13 _ _ _ ?_))
        clear hK13
        first | refine wp_condD rfl (fun hc31 => ?_) (fun hc31 => ?_) | refine wp_condN rfl (fun hc31 => ?_) (fun hc31 => ?_) | refine wp_condNB rfl (fun hc31 => ?_) (fun hc31 => ?_) | refine wp_cond' rfl (fun hc31 => ?_) (fun hc31 => ?_)
        · refine wp_seq' fun K14 hK14 => ?_
          refine wp_reg ?_
          refine ol_r (r_move rfl) rfl ?_
          refine ol_r (r_assign rfl) rfl ?_
          refine ol_r (r_assign rfl) rfl ?_
          refine ol_r (r_assign rfl) rfl ?_
          refine ol_nil (to_k0 (fun _ _ h => h) (hK14 _ _ _ ?_))
          clear hK14
          refine hQ.ret (rvs3 (rv_t rfl) (rv_t rfl) (rv_t rfl)) (fun _ _ h => h) fun w hb hs hB hkd => ?_
          have h := idxP_at (p := fun x => decide (x < 0)) hx28 (decide_eq_true hc31) hP
          refine ⟨?_, hb⟩
          rw [show emptyR xs p v = _ from if_neg hc21, hys, h]
          dsimp only
          rw [show max (k : Int) 0 = k by omega, decide_eq_true (show (0 : Int) ≤ k by omega)]
        · refine wp_skip' (to_k0 (fun _ _ h => h) (hK11 _ _ _ ?_))
          clear hK11
          refine wp_reg ?_
          refine ol_r (r_add rfl rfl (by omega)) rfl ?_
          refine ol_r (r_move rfl) rfl ?_
          refine ol_nil (to_k0 (fun _ _ h => h) (hK8 (k + 1) _ _ ?_ ?_ (sub_cons rfl sub_nil) (sub_cons rfl (sub_cons rfl sub_nil)) (by exact subH_nil) (subH_same rfl subH_nil)))
          · try dsimp only
            refine ⟨by omega, fun y hy => ?_⟩
            rw [take_succ_get hx28] at hy
            rcases List.mem_append.1 hy with h | h
            · exact hP y h
            · simp at h; subst h; exact decide_eq_false hc31
          · try dsimp only
            omega
      · refine wp_exit' (to_k0 (fun _ _ h => h) (hK6 _ _ _ ?_))
        clear hK6
        refine wp_seq' fun K15 hK15 => ?_
        refine wp_reg ?_
        refine ol_r (r_assign rfl) rfl ?_
        refine ol_r (r_assign rfl) rfl ?_
        refine ol_r (r_assign rfl) rfl ?_
        refine ol_nil (to_k0 (fun _ _ h => h) (hK15 _ _ _ ?_))
        clear hK15
        refine hQ.ret (rvs3 (rv_t rfl) (rv_t rfl) (rv_t rfl)) (fun _ _ h => h) fun w hb hs hB hkd => ?_
        rw [List.take_of_length_le (by omega)] at hP
        have h := idxP_no (p := fun x => decide (x < 0)) hP
        refine ⟨?_, hb⟩
        rw [show emptyR xs p v = _ from if_neg hc21, hys, h]
        rfl
theorem law_balance1 (x v : Int) (b : Nat) (w : World) (h1 : Blk w.heap.size w b [(0, .int .i64 v)]) : Calls Try.prog 35 ([Value.int .i64 x] ++ [Value.pointer (some ⟨b, 0, none⟩)]).toArray w fun e w2 => e = .returned (.bool (decide (v < x))) ∧ Below w.heap.size w w2 := by
  refine enterQ (N := 7) (C := fun _ => True) (H := []) (B := w.heap.size) (args := [_, _]) Try.func35 rfl rfl rfl (Nat.le_refl _) (Sat.nil _ _) fun Q hQ => ?_
  refine wp_seq' fun K1 hK1 => ?_
  refine wp_reg ?_
  refine ol_r (r_assign rfl) rfl ?_
  refine ol_nil (to_k0 (fun _ _ h => h) (hK1 _ _ _ ?_))
  clear hK1
  refine wp_seq' fun K2 hK2 => ?_
  refine wp_reg ?_
  refine ol_r (r_move rfl) rfl ?_
  refine ol_r (r_ldw rfl (fun w1 hb1 hs1 hB1 => Blk.loads (o := 0) h1 hb1 sc3 rfl)) rfl ?_
  refine ol_r (r_gtr rfl rfl) rfl ?_
  refine ol_r (r_assign rfl) rfl ?_
  refine ol_nil (to_k0 (fun _ _ h => h) (hK2 _ _ _ ?_))
  clear hK2
  refine hQ.ret (rvs1 (rv_t rfl)) (fun _ _ h => h) fun w hb hs hB hkd => ?_
  exact ⟨rfl, hb⟩
theorem law_balance (a : Option Addr) (n cap : Nat) (xs : List Int) (p v : Int) (w : World) (hl : Rd encI w.heap.size w a n cap xs) :
    Calls Try.prog 7 #[.slice a n cap, .int .i64 p, .int .i64 v] w fun e w' => e = .returned (.bool true) ∧ Below w.heap.size w w' := by
  have hno : (balR xs p v).1.any (fun x => decide (v < x)) = false := by
    rw [List.any_eq_false]; intro y hy; have := balR_bd y hy; simp; omega
  refine enterQ (N := 79) (C := fun _ => True) (H := []) (B := w.heap.size) (args := [_, _, _]) Try.func7 rfl rfl rfl (Nat.le_refl _) (Sat.nil _ _) fun Q hQ => ?_
  refine wp_seq' fun K1 hK1 => ?_
  refine wp_reg ?_
  refine ol_box 5 rfl rfl rfl fun b5 => ?_
  refine ol_r (r_assign rfl) rfl ?_
  refine ol_nil (to_k0 (fun _ _ h => h) (hK1 _ _ _ ?_))
  clear hK1
  refine wp_seq' fun K2 hK2 => ?_
  refine wp_reg ?_
  refine ol_r (r_move rfl) rfl ?_
  refine ol_r (r_move rfl) rfl ?_
  refine ol_r (r_ld (id := 5) rfl rfl rfl sc3) rfl ?_
  refine ol_call rfl rfl cb30 rfl (fun w1 hb1 hs1 hB1 => Calls.mono (load_Balance _ _ _ xs _ _ _ (hl.at hb1 hB1)) ?_)
  rintro e w2 ⟨a21, n21, c21, rfl, hf21⟩
  refine After.fresh (id := 21) rfl hb1 hs1 hB1 hf21 ?_
  have hl21 := hf21.len; clear hf21 hB1 hs1 hb1 w2 w1
  refine ol_r (r_move rfl) rfl ?_
  refine ol_r (r_extract rfl rfl) rfl ?_
  refine ol_r (r_extract rfl rfl) rfl ?_
  refine ol_r (r_assign rfl) rfl ?_
  refine ol_r (r_assign rfl) rfl ?_
  refine ol_nil (to_k0 (fun _ _ h => h) (hK2 _ _ _ ?_))
  clear hK2
  refine wp_seq' fun K3 hK3 => ?_
  refine wp_reg ?_
  refine ol_r (r_move rfl) rfl ?_
  refine ol_r (r_move rfl) rfl ?_
  refine ol_r (r_ld (id := 5) rfl rfl rfl sc3) rfl ?_
  refine ol_call rfl rfl cb31 rfl (fun w1 hb1 hs1 hB1 => Calls.mono (ref_Balance _ _ _ xs _ _ _ (hl.at hb1 hB1)) ?_)
  rintro e w2 ⟨a28, n28, c28, rfl, hf28⟩
  refine After.fresh (id := 28) rfl hb1 hs1 hB1 hf28 ?_
  have hl28 := hf28.len; clear hf28 hB1 hs1 hb1 w2 w1
  refine ol_r (r_move rfl) rfl ?_
  refine ol_r (r_extract rfl rfl) rfl ?_
  refine ol_r (r_extract rfl rfl) rfl ?_
  refine ol_r (r_assign rfl) rfl ?_
  refine ol_r (r_assign rfl) rfl ?_
  refine ol_nil (to_k0 (fun _ _ h => h) (hK3 _ _ _ ?_))
  clear hK3
  refine wp_seq' fun K4 hK4 => ?_
  refine wp_reg ?_
  refine ol_r (r_move rfl) rfl ?_
  refine ol_r (r_move rfl) rfl ?_
  refine ol_r (r_ld (id := 5) rfl rfl rfl sc3) rfl ?_
  refine ol_call rfl rfl cb32 rfl (fun w1 hb1 hs1 hB1 => Calls.mono (load_Empty _ _ _ xs _ _ _ (hl.at hb1 hB1)) ?_)
  rintro e w2 ⟨rfl, hb2⟩
  refine After.below rfl hb1 hs1 hB1 hb2 ?_
  clear hb2 hB1 hs1 hb1 w2 w1
  refine ol_r (r_move rfl) rfl ?_
  refine ol_r (r_extract rfl rfl) rfl ?_
  refine ol_r (r_extract rfl rfl) rfl ?_
  refine ol_r (r_extract rfl rfl) rfl ?_
  refine ol_r (r_assign rfl) rfl ?_
  refine ol_r (r_assign rfl) rfl ?_
  refine ol_r (r_assign rfl) rfl ?_
  refine ol_nil (to_k0 (fun _ _ h => h) (hK4 _ _ _ ?_))
  clear hK4
  refine wp_seq' fun K5 hK5 => ?_
  refine wp_reg ?_
  refine ol_r (r_move rfl) rfl ?_
  refine ol_r (r_move rfl) rfl ?_
  refine ol_r (r_ld (id := 5) rfl rfl rfl sc3) rfl ?_
  refine ol_call rfl rfl cb33 rfl (fun w1 hb1 hs1 hB1 => Calls.mono (ref_Empty _ _ _ xs _ _ _ (hl.at hb1 hB1)) ?_)
  rintro e w2 ⟨rfl, hb2⟩
  refine After.below rfl hb1 hs1 hB1 hb2 ?_
  clear hb2 hB1 hs1 hb1 w2 w1
  refine ol_r (r_move rfl) rfl ?_
  refine ol_r (r_extract rfl rfl) rfl ?_
  refine ol_r (r_extract rfl rfl) rfl ?_
  refine ol_r (r_extract rfl rfl) rfl ?_
  refine ol_r (r_assign rfl) rfl ?_
  refine ol_r (r_assign rfl) rfl ?_
  refine ol_r (r_assign rfl) rfl ?_
  refine ol_nil (to_k0 (fun _ _ h => h) (hK5 _ _ _ ?_))
  clear hK5
  refine wp_seq' fun K6 hK6 => ?_
  refine wp_reg ?_
  refine ol_r (r_move rfl) rfl ?_
  refine ol_r (r_move rfl) rfl ?_
  refine ol_call rfl rfl cb20 rfl (fun w1 hb1 hs1 hB1 => Calls.mono (equal_int _ _ _ _ _ _ (balR xs p v).1 (balR xs p v).1 _ (Sat.rd hs1 (id := 21) rfl rfl) (Sat.rd hs1 (id := 28) rfl rfl)) ?_)
  rintro e w2 ⟨rfl, hb2⟩
  refine After.below rfl hb1 hs1 hB1 hb2 ?_
  clear hb2 hB1 hs1 hb1 w2 w1
  refine ol_r (r_move rfl) rfl ?_
  refine ol_split (d := 50) rfl (fun hs50 => ?_) (fun hs50 => ?_)
  · have phs50 := hs50; try simp only [decide_eq_true_eq, decide_eq_false_iff_not, Bool.not_eq_true', Bool.not_eq_false', Bool.not_true, Bool.not_false] at phs50
    refine ol_g rfl rfl hs50 ?_
    refine ol_r (r_move rfl) rfl ?_
    refine ol_g rfl rfl hs50 ?_
    refine ol_r (r_move rfl) rfl ?_
    refine ol_g rfl rfl hs50 ?_
    refine ol_r (r_eql rfl rfl) rfl ?_
    refine ol_r (r_pickT rfl hs50 rfl) rfl ?_
    refine ol_r (r_move rfl) rfl ?_
    refine ol_split (d := 55) rfl (fun hs55 => ?_) (fun hs55 => ?_)
    · have phs55 := hs55; try simp only [decide_eq_true_eq, decide_eq_false_iff_not, Bool.not_eq_true', Bool.not_eq_false', Bool.not_true, Bool.not_false] at phs55
      refine ol_g rfl rfl hs55 ?_
      refine ol_r (r_move rfl) rfl ?_
      refine ol_g rfl rfl hs55 ?_
      refine ol_r (r_move rfl) rfl ?_
      refine ol_g rfl rfl hs55 ?_
      refine ol_r (r_eql rfl rfl) rfl ?_
      refine ol_r (r_pickT rfl hs55 rfl) rfl ?_
      refine ol_r (r_move rfl) rfl ?_
      refine ol_split (d := 60) rfl (fun hs60 => ?_) (fun hs60 => ?_)
      · have phs60 := hs60; try simp only [decide_eq_true_eq, decide_eq_false_iff_not, Bool.not_eq_true', Bool.not_eq_false', Bool.not_true, Bool.not_false] at phs60
        refine ol_g rfl rfl hs60 ?_
        refine ol_r (r_move rfl) rfl ?_
        refine ol_g rfl rfl hs60 ?_
        refine ol_r (r_move rfl) rfl ?_
        refine ol_g rfl rfl hs60 ?_
        refine ol_r (r_beql rfl rfl (by kernel_rfl)) rfl ?_
        refine ol_r (r_pickT rfl hs60 rfl) rfl ?_
        refine ol_r (r_move rfl) rfl ?_
        refine ol_split (d := 65) rfl (fun hs65 => ?_) (fun hs65 => ?_)
        · have phs65 := hs65; try simp only [decide_eq_true_eq, decide_eq_false_iff_not, Bool.not_eq_true', Bool.not_eq_false', Bool.not_true, Bool.not_false] at phs65
          refine ol_g rfl rfl hs65 ?_
          refine ol_r (r_move rfl) rfl ?_
          refine ol_g rfl rfl hs65 ?_
          refine ol_r (r_move rfl) rfl ?_
          refine ol_g rfl rfl hs65 ?_
          refine ol_r (r_eql rfl rfl) rfl ?_
          refine ol_r (r_pickT rfl hs65 rfl) rfl ?_
          refine ol_r (r_move rfl) rfl ?_
          refine ol_split (d := 70) rfl (fun hs70 => ?_) (fun hs70 => ?_)
          · have phs70 := hs70; try simp only [decide_eq_true_eq, decide_eq_false_iff_not, Bool.not_eq_true', Bool.not_eq_false', Bool.not_true, Bool.not_false] at phs70
            refine ol_g rfl rfl hs70 ?_
            refine ol_r (r_move rfl) rfl ?_
            refine ol_g rfl rfl hs70 ?_
            refine ol_r (r_func rfl) rfl ?_
            refine ol_g rfl rfl hs70 ?_
            refine ol_call rfl rfl cb34 rfl (fun w1 hb1 hs1 hB1 => Calls.mono (containsFunc_any _ _ _ (balR xs p v).1 _ _ (fun x => decide (v < x)) _ (Sat.rd hs1 (E := encI) (id := 21) rfl rfl) cb35 (fun x w' _ h1 h2 => law_balance1 x v _ w' ((hs1.blk (id := 5) rfl).at h1 h2))) ?_)
            rintro e w2 ⟨rfl, hb2⟩
            refine After.below rfl hb1 hs1 hB1 hb2 ?_
            clear hb2 hB1 hs1 hb1 w2 w1
            refine ol_g rfl rfl hs70 ?_
            refine ol_r (r_not rfl) rfl ?_
            refine ol_r (r_pickT rfl hs70 rfl) rfl ?_
            refine ol_r (r_move rfl) rfl ?_
            refine ol_split (d := 76) rfl (fun hs76 => ?_) (fun hs76 => ?_)
            · have phs76 := hs76; try simp only [decide_eq_true_eq, decide_eq_false_iff_not, Bool.not_eq_true', Bool.not_eq_false', Bool.not_true, Bool.not_false] at phs76
              refine ol_g rfl rfl hs76 ?_
              refine ol_call rfl rfl cb14 rfl (fun w1 hb1 hs1 hB1 => Calls.mono (load_told _) ?_)
              rintro e w2 ⟨rfl, hb2⟩
              refine After.below rfl hb1 hs1 hB1 hb2 ?_
              clear hb2 hB1 hs1 hb1 w2 w1
              refine ol_r (r_pickT rfl hs76 rfl) rfl ?_
              refine ol_r (r_assign rfl) rfl ?_
              refine ol_nil (to_k0 (fun _ _ h => h) (hK6 _ _ _ ?_))
              clear hK6
              refine hQ.ret (rvs1 (rv_t rfl)) (fun _ _ h => h) fun w hb hs hB hkd => ?_
              first
                | exact ⟨rfl, hb⟩
                | (exfalso; simp_all; done)
            · have phs76 := hs76; try simp only [decide_eq_true_eq, decide_eq_false_iff_not, Bool.not_eq_true', Bool.not_eq_false', Bool.not_true, Bool.not_false] at phs76
              refine ol_s rfl rfl hs76 rfl ?_
              refine ol_r (r_pickF rfl hs76 rfl) rfl ?_
              refine ol_r (r_assign rfl) rfl ?_
              refine ol_nil (to_k0 (fun _ _ h => h) (hK6 _ _ _ ?_))
              clear hK6
              refine hQ.ret (rvs1 (rv_t rfl)) (fun _ _ h => h) fun w hb hs hB hkd => ?_
              first
                | exact ⟨rfl, hb⟩
                | (exfalso; simp_all; done)
          · have phs70 := hs70; try simp only [decide_eq_true_eq, decide_eq_false_iff_not, Bool.not_eq_true', Bool.not_eq_false', Bool.not_true, Bool.not_false] at phs70
            refine ol_s rfl rfl hs70 rfl ?_
            refine ol_s rfl rfl hs70 rfl ?_
            refine ol_s rfl rfl hs70 rfl ?_
            refine ol_s rfl rfl hs70 rfl ?_
            refine ol_r (r_pickF rfl hs70 rfl) rfl ?_
            refine ol_r (r_move rfl) rfl ?_
            refine ol_s rfl rfl rfl rfl ?_
            refine ol_r (r_pickF rfl rfl rfl) rfl ?_
            refine ol_r (r_assign rfl) rfl ?_
            refine ol_nil (to_k0 (fun _ _ h => h) (hK6 _ _ _ ?_))
            clear hK6
            refine hQ.ret (rvs1 (rv_t rfl)) (fun _ _ h => h) fun w hb hs hB hkd => ?_
            first
              | exact ⟨rfl, hb⟩
              | (exfalso; simp_all; done)
        · have phs65 := hs65; try simp only [decide_eq_true_eq, decide_eq_false_iff_not, Bool.not_eq_true', Bool.not_eq_false', Bool.not_true, Bool.not_false] at phs65
          refine ol_s rfl rfl hs65 rfl ?_
          refine ol_s rfl rfl hs65 rfl ?_
          refine ol_s rfl rfl hs65 rfl ?_
          refine ol_r (r_pickF rfl hs65 rfl) rfl ?_
          refine ol_r (r_move rfl) rfl ?_
          refine ol_s rfl rfl rfl rfl ?_
          refine ol_s rfl rfl rfl rfl ?_
          refine ol_s rfl rfl rfl rfl ?_
          refine ol_s rfl rfl rfl rfl ?_
          refine ol_r (r_pickF rfl rfl rfl) rfl ?_
          refine ol_r (r_move rfl) rfl ?_
          refine ol_s rfl rfl rfl rfl ?_
          refine ol_r (r_pickF rfl rfl rfl) rfl ?_
          refine ol_r (r_assign rfl) rfl ?_
          refine ol_nil (to_k0 (fun _ _ h => h) (hK6 _ _ _ ?_))
          clear hK6
          refine hQ.ret (rvs1 (rv_t rfl)) (fun _ _ h => h) fun w hb hs hB hkd => ?_
          first
            | exact ⟨rfl, hb⟩
            | (exfalso; simp_all; done)
      · have phs60 := hs60; try simp only [decide_eq_true_eq, decide_eq_false_iff_not, Bool.not_eq_true', Bool.not_eq_false', Bool.not_true, Bool.not_false] at phs60
        refine ol_s rfl rfl hs60 rfl ?_
        refine ol_s rfl rfl hs60 rfl ?_
        refine ol_s rfl rfl hs60 rfl ?_
        refine ol_r (r_pickF rfl hs60 rfl) rfl ?_
        refine ol_r (r_move rfl) rfl ?_
        refine ol_s rfl rfl rfl rfl ?_
        refine ol_s rfl rfl rfl rfl ?_
        refine ol_s rfl rfl rfl rfl ?_
        refine ol_r (r_pickF rfl rfl rfl) rfl ?_
        refine ol_r (r_move rfl) rfl ?_
        refine ol_s rfl rfl rfl rfl ?_
        refine ol_s rfl rfl rfl rfl ?_
        refine ol_s rfl rfl rfl rfl ?_
        refine ol_s rfl rfl rfl rfl ?_
        refine ol_r (r_pickF rfl rfl rfl) rfl ?_
        refine ol_r (r_move rfl) rfl ?_
        refine ol_s rfl rfl rfl rfl ?_
        refine ol_r (r_pickF rfl rfl rfl) rfl ?_
        refine ol_r (r_assign rfl) rfl ?_
        refine ol_nil (to_k0 (fun _ _ h => h) (hK6 _ _ _ ?_))
        clear hK6
        refine hQ.ret (rvs1 (rv_t rfl)) (fun _ _ h => h) fun w hb hs hB hkd => ?_
        first
          | exact ⟨rfl, hb⟩
          | (exfalso; simp_all; done)
    · have phs55 := hs55; try simp only [decide_eq_true_eq, decide_eq_false_iff_not, Bool.not_eq_true', Bool.not_eq_false', Bool.not_true, Bool.not_false] at phs55
      refine ol_s rfl rfl hs55 rfl ?_
      refine ol_s rfl rfl hs55 rfl ?_
      refine ol_s rfl rfl hs55 rfl ?_
      refine ol_r (r_pickF rfl hs55 rfl) rfl ?_
      refine ol_r (r_move rfl) rfl ?_
      refine ol_s rfl rfl rfl rfl ?_
      refine ol_s rfl rfl rfl rfl ?_
      refine ol_s rfl rfl rfl rfl ?_
      refine ol_r (r_pickF rfl rfl rfl) rfl ?_
      refine ol_r (r_move rfl) rfl ?_
      refine ol_s rfl rfl rfl rfl ?_
      refine ol_s rfl rfl rfl rfl ?_
      refine ol_s rfl rfl rfl rfl ?_
      refine ol_r (r_pickF rfl rfl rfl) rfl ?_
      refine ol_r (r_move rfl) rfl ?_
      refine ol_s rfl rfl rfl rfl ?_
      refine ol_s rfl rfl rfl rfl ?_
      refine ol_s rfl rfl rfl rfl ?_
      refine ol_s rfl rfl rfl rfl ?_
      refine ol_r (r_pickF rfl rfl rfl) rfl ?_
      refine ol_r (r_move rfl) rfl ?_
      refine ol_s rfl rfl rfl rfl ?_
      refine ol_r (r_pickF rfl rfl rfl) rfl ?_
      refine ol_r (r_assign rfl) rfl ?_
      refine ol_nil (to_k0 (fun _ _ h => h) (hK6 _ _ _ ?_))
      clear hK6
      refine hQ.ret (rvs1 (rv_t rfl)) (fun _ _ h => h) fun w hb hs hB hkd => ?_
      first
        | exact ⟨rfl, hb⟩
        | (exfalso; simp_all; done)
  · have phs50 := hs50; try simp only [decide_eq_true_eq, decide_eq_false_iff_not, Bool.not_eq_true', Bool.not_eq_false', Bool.not_true, Bool.not_false] at phs50
    refine ol_s rfl rfl hs50 rfl ?_
    refine ol_s rfl rfl hs50 rfl ?_
    refine ol_s rfl rfl hs50 rfl ?_
    refine ol_r (r_pickF rfl hs50 rfl) rfl ?_
    refine ol_r (r_move rfl) rfl ?_
    refine ol_s rfl rfl rfl rfl ?_
    refine ol_s rfl rfl rfl rfl ?_
    refine ol_s rfl rfl rfl rfl ?_
    refine ol_r (r_pickF rfl rfl rfl) rfl ?_
    refine ol_r (r_move rfl) rfl ?_
    refine ol_s rfl rfl rfl rfl ?_
    refine ol_s rfl rfl rfl rfl ?_
    refine ol_s rfl rfl rfl rfl ?_
    refine ol_r (r_pickF rfl rfl rfl) rfl ?_
    refine ol_r (r_move rfl) rfl ?_
    refine ol_s rfl rfl rfl rfl ?_
    refine ol_s rfl rfl rfl rfl ?_
    refine ol_s rfl rfl rfl rfl ?_
    refine ol_r (r_pickF rfl rfl rfl) rfl ?_
    refine ol_r (r_move rfl) rfl ?_
    refine ol_s rfl rfl rfl rfl ?_
    refine ol_s rfl rfl rfl rfl ?_
    refine ol_s rfl rfl rfl rfl ?_
    refine ol_s rfl rfl rfl rfl ?_
    refine ol_r (r_pickF rfl rfl rfl) rfl ?_
    refine ol_r (r_move rfl) rfl ?_
    refine ol_s rfl rfl rfl rfl ?_
    refine ol_r (r_pickF rfl rfl rfl) rfl ?_
    refine ol_r (r_assign rfl) rfl ?_
    refine ol_nil (to_k0 (fun _ _ h => h) (hK6 _ _ _ ?_))
    clear hK6
    refine hQ.ret (rvs1 (rv_t rfl)) (fun _ _ h => h) fun w hb hs hB hkd => ?_
    first
      | exact ⟨rfl, hb⟩
      | (exfalso; simp_all; done)
end Go.Proofs.Ytamlldedmhkobaa
