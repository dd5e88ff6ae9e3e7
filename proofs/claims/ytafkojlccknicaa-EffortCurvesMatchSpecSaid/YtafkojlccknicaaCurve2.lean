/-
  Curve: program and reference; the walk of EffortCurvesMatchSpec.
-/
import Derived.Test.YtafkojlccknicaaCurve
import Derived.Test.YtafkojlccknicaaZones
namespace Go.Proofs.Ytafkojlccknicaa
open Go Go.RowKit Hx
set_option linter.unusedVariables false
set_option linter.unusedSimpArgs false
set_option maxRecDepth 8000

def curveL (xs zs : List Int) : List BestR := zs.map fun z => bR z (bestK xs z.toNat xs.length)
theorem curveL_take {xs zs : List Int} {k : Nat} {z : Int} (h : zs[k]? = some z) : curveL xs (zs.take (k + 1)) = curveL xs (zs.take k) ++ [bR z (bestK xs z.toNat xs.length)] := by
  unfold curveL; rw [take_succ_get h, List.map_append]; rfl
def curveR (xs zs : List Int) : List BestR × Int := if streamR xs ≠ 0 then ([], streamR xs) else if sizesC zs ≠ 0 then ([], sizesC zs) else (curveL xs zs, 0)
theorem effort_Curve (a b : Option Addr) (n cap m c2 : Nat) (xs zs : List Int) (w : World) (hl : Rd encI w.heap.size w a n cap xs) (hz : Rd encI w.heap.size w b m c2 zs) :
    Calls Try.prog 27 #[.slice a n cap, .slice b m c2] w fun e w' => ∃ o k kc, e = .returned (.tuple #[.slice o k kc, .int .i64 (curveR xs zs).2]) ∧ Fresh encBest 24 w w' o k kc (curveR xs zs).1 := by
  have hn := hl.len
  have hm := hz.len
  have hfit := hz.fit
  subst hn
  subst hm
  refine enterQ (N := 33) (H := []) (B := w.heap.size) (args := [_, _]) Try.func27 rfl rfl rfl (Nat.le_refl _) (Sat.nil _ _) fun Q hQ => ?_
  refine wp_seq' fun K1 hK1 => ?_
  refine wp_reg ?_
  refine ol_r (r_assign rfl) rfl ?_
  refine ol_r (r_assign rfl) rfl ?_
  refine ol_nil (to_k0 (fun _ _ h => h) (hK1 _ _ ?_))
  clear hK1
  refine wp_seq' fun K2 hK2 => ?_
  refine wp_seq' fun K3 hK3 => ?_
  refine wp_reg ?_
  refine ol_r (r_move rfl) rfl ?_
  refine ol_call rfl rfl cb20 rfl (fun w1 hb1 hs1 hB1 => Calls.mono (effort_CheckStream _ _ _ xs _ (hl.at hb1 hB1)) ?_)
  rintro e w2 ⟨rfl, hb2⟩
  refine After.below rfl hb1 hs1 hB1 hb2 ?_
  clear hb2 hB1 hs1 hb1 w2 w1
  refine ol_r (r_move rfl) rfl ?_
  refine ol_call rfl rfl cb33 rfl (fun w1 hb1 hs1 hB1 => Calls.mono (effort_CheckSizes _ _ _ zs _ (hz.at hb1 hB1)) ?_)
  rintro e w2 ⟨rfl, hb2⟩
  refine After.below rfl hb1 hs1 hB1 hb2 ?_
  clear hb2 hB1 hs1 hb1 w2 w1
  refine ol_bsN 14 rfl rw143 rfl rfl (fun _ => by kernel_rfl) rfl fun a14 => ?_
  refine ol_call rfl rfl cb74 rfl (fun w1 hb1 hs1 hB1 => Calls.mono (cmp_Or _ _ _ [streamR xs, sizesC zs] _ (Sat.rd hs1 (E := encI) (id := 14) rfl rfl)) ?_)
  rintro e w2 ⟨rfl, hb2⟩
  refine After.below rfl hb1 hs1 hB1 hb2 ?_
  clear hb2 hB1 hs1 hb1 w2 w1
  refine ol_r (r_assign rfl) rfl ?_
  refine ol_nil (to_k0 (fun _ _ h => h) (hK3 _ _ ?_))
  clear hK3
  refine wp_seq' fun K4 hK4 => ?_
  refine wp_reg ?_
  refine ol_r (r_move rfl) rfl ?_
  refine ol_r (r_neq rfl rfl) rfl ?_
  refine ol_nil (to_k0 (fun _ _ h => h) (hK4 _ _ ?_))
  clear hK4
  first | refine wp_condD rfl (fun hc17 => ?_) (fun hc17 => ?_) | refine wp_condN rfl (fun hc17 => ?_) (fun hc17 => ?_) | refine wp_condNB rfl (fun hc17 => ?_) (fun hc17 => ?_) | refine wp_cond' rfl (fun hc17 => ?_) (fun hc17 => ?_)
  · refine wp_seq' fun K5 hK5 => ?_
    refine wp_reg ?_
    refine ol_r (r_move rfl) rfl ?_
    refine ol_r (r_assign rfl) rfl ?_
    refine ol_r (r_assign rfl) rfl ?_
    refine ol_nil (to_k0 (fun _ _ h => h) (hK5 _ _ ?_))
    clear hK5
    refine hQ.ret (rvs2 (rv_t rfl) (rv_t rfl)) (fun _ _ h => h) fun w hb hs hB => ?_
    first
      | (refine ⟨none, 0, 0, ?_, ?_⟩
         · unfold curveR
           unfold orR at hc17 ⊢
           by_cases h1 : streamR xs ≠ 0
           · rw [if_pos h1, if_pos h1]
           · rw [if_neg h1] at hc17
             rw [if_neg h1, if_neg h1]
             unfold orR at hc17 ⊢
             by_cases h2 : sizesC zs ≠ 0
             · rw [if_pos h2, if_pos h2]
             · rw [if_neg h2] at hc17; exact absurd rfl hc17
         · have : (curveR xs zs).1 = [] := by
             unfold curveR
             unfold orR at hc17
             by_cases h1 : streamR xs ≠ 0
             · rw [if_pos h1]
             · rw [if_neg h1] at hc17
               rw [if_neg h1]
               unfold orR at hc17
               by_cases h2 : sizesC zs ≠ 0
               · rw [if_pos h2]
               · rw [if_neg h2] at hc17; exact absurd rfl hc17
           rw [this]; exact Fresh.nil hb)
      | (have hin : i = zs.length := by omega
         subst hin
         refine ⟨oa, zs.length, oc, ?_, ?_⟩ <;> unfold curveR <;> rw [if_neg (by simp [hE.1]), if_neg (by simp [hE.2])]
         have := hs.ok 7 _ rfl
         rw [List.take_length] at this
         exact ⟨hb, this⟩)
  · refine wp_skip' (to_k0 (fun _ _ h => h) (hK2 _ _ ?_))
    clear hK2
    refine wp_seq' fun K6 hK6 => ?_
    refine wp_reg ?_
    refine ol_nilrow 7 24 4 ?_
    refine ol_r (r_assign rfl) rfl ?_
    refine ol_nil (to_k0 (fun _ _ h => h) (hK6 _ _ ?_))
    clear hK6
    refine wp_seq' fun K7 hK7 => ?_
    refine wp_seq' fun K8 hK8 => ?_
    refine wp_reg ?_
    have hE : streamR xs = 0 ∧ sizesC zs = 0 := by
      have h := Decidable.not_not.1 hc17
      unfold orR at h
      by_cases h1 : streamR xs ≠ 0
      · rw [if_pos h1] at h; exact absurd h h1
      · rw [if_neg h1] at h
        unfold orR at h
        by_cases h2 : sizesC zs ≠ 0
        · rw [if_pos h2] at h; exact absurd h h2
        · exact ⟨Decidable.not_not.1 h1, Decidable.not_not.1 h2⟩
    have hzk := sizesC_ok hE.2
    refine ol_r (r_move rfl) rfl ?_
    refine ol_r (r_len rfl sl22) rfl ?_
    refine ol_r (r_move rfl) rfl ?_
    refine ol_nil (to_k0 (fun _ _ h => h) (hK8 _ _ ?_))
    clear hK8
    refine wp_block' ?_
    apply wp_loopM (σ := Nat × Option Addr × Nat) (fun s => s.1 ≤ zs.length) (fun s => [(21, .int .i64 s.1), (7, .slice s.2.1 s.1 s.2.2)]) [(0, _), (4, _), (5, _), (19, _), (20, _)] (fun s => [(7, .row s.2.1 s.1 s.2.2 (encBest.enc (curveL xs (zs.take s.1))) 24 4)]) [(14, _)] (fun s => zs.length - s.1) ((0, none, 0))
    · try dsimp only
      exact Nat.zero_le _
    · exact (sub_cons rfl (sub_cons rfl sub_nil))
    · exact (sub_cons rfl (sub_cons rfl (sub_cons rfl (sub_cons rfl (sub_cons rfl sub_nil)))))
    · exact (subH_row rfl (by first | (dsimp only; rfl; done) | (rfl; done) | (dsimp only; done)) subH_nil)
    · exact (subH_same rfl subH_nil)
    · rintro ⟨i, oa, oc⟩ hi
      dsimp only at hi ⊢
      intro K9 hK9
      refine wp_seq' fun K10 hK10 => ?_
      refine wp_reg ?_
      refine ol_r (r_lss rfl rfl) rfl ?_
      refine ol_nil (to_k0 (fun _ _ h => h) (hK10 _ _ ?_))
      clear hK10
      refine wp_seq' fun K11 hK11 => ?_
      first | refine wp_condD rfl (fun hc22 => ?_) (fun hc22 => ?_) | refine wp_condN rfl (fun hc22 => ?_) (fun hc22 => ?_) | refine wp_condNB rfl (fun hc22 => ?_) (fun hc22 => ?_) | refine wp_cond' rfl (fun hc22 => ?_) (fun hc22 => ?_)
      · refine wp_skip' (to_k0 (fun _ _ h => h) (hK11 _ _ ?_))
        clear hK11
        refine wp_seq' fun K12 hK12 => ?_
        refine wp_block' ?_
        refine wp_seq' fun K13 hK13 => ?_
        refine wp_reg ?_
        refine ol_ixr hz rfl rfl sl22 (by omega) rfl fun x23 hx23 => ?_
        try simp only [Int.toNat_natCast] at hx23
        refine ol_r (r_ldw rfl (fun w1 hb1 hs1 hB1 => show Loads _ _ _ _ (.int .i64 x23) from Rd.loads hz ty3 hx23 hb1)) rfl ?_
        refine ol_r (r_assign rfl) rfl ?_
        refine ol_nil (to_k0 (fun _ _ h => h) (hK13 _ _ ?_))
        clear hK13
        refine wp_reg ?_
        have hq := hzk.2.2.1 _ (List.mem_of_getElem? hx23)
        obtain ⟨z, rfl⟩ := Int.eq_ofNat_of_zero_le (show 0 ≤ x23 by omega)
        refine ol_r (r_move rfl) rfl ?_
        refine ol_r (r_move rfl) rfl ?_
        refine ol_r (r_move rfl) rfl ?_
        refine ol_call rfl rfl cb70 rfl (fun w1 hb1 hs1 hB1 => Calls.mono (effort_best _ _ _ xs z _ (hl.at hb1 hB1) (by omega) hE.1) ?_)
        rintro e w2 ⟨rfl, hb2⟩
        refine After.below rfl hb1 hs1 hB1 hb2 ?_
        clear hb2 hB1 hs1 hb1 w2 w1
        refine ol_bs1 29 rfl rfl rw38 rfl rfl rfl fun a29 => ?_
        refine ol_append1 (id := 7) (id2 := 29) rfl rfl rfl rfl rfl rw38 (by omega) rfl fun a30 c30 => ?_
        refine ol_r (r_assign rfl) rfl ?_
        refine ol_nil (to_k0 (fun _ _ h => h) (hK12 _ _ ?_))
        clear hK12
        refine wp_reg ?_
        refine ol_r (r_add rfl rfl (by omega)) rfl ?_
        refine ol_r (r_move rfl) rfl ?_
        refine ol_nil (to_k0 (fun _ _ h => h) (hK9 ((i + 1, _, _)) _ _ ?_ ?_ (sub_cons rfl (sub_cons rfl sub_nil)) (sub_cons rfl (sub_cons rfl (sub_cons rfl (sub_cons rfl (sub_cons rfl sub_nil))))) (by exact (subH_row rfl (by first | (dsimp only; rw [curveL_take hx23, encBest_snoc]; rfl; done) | (rw [curveL_take hx23, encBest_snoc]; rfl; done) | (dsimp only; done)) subH_nil)) (subH_same rfl subH_nil)))
        · try dsimp only
          omega
        · try dsimp only
          omega
      · refine wp_exit' (to_k0 (fun _ _ h => h) (hK7 _ _ ?_))
        clear hK7
        refine wp_seq' fun K14 hK14 => ?_
        refine wp_reg ?_
        refine ol_r (r_move rfl) rfl ?_
        refine ol_r (r_assign rfl) rfl ?_
        refine ol_r (r_assign rfl) rfl ?_
        refine ol_nil (to_k0 (fun _ _ h => h) (hK14 _ _ ?_))
        clear hK14
        refine hQ.ret (rvs2 (rv_t rfl) (rv_t rfl)) (fun _ _ h => h) fun w hb hs hB => ?_
        first
          | (refine ⟨none, 0, 0, ?_, ?_⟩
             · unfold curveR
               unfold orR at hc17 ⊢
               by_cases h1 : streamR xs ≠ 0
               · rw [if_pos h1, if_pos h1]
               · rw [if_neg h1] at hc17
                 rw [if_neg h1, if_neg h1]
                 unfold orR at hc17 ⊢
                 by_cases h2 : sizesC zs ≠ 0
                 · rw [if_pos h2, if_pos h2]
                 · rw [if_neg h2] at hc17; exact absurd rfl hc17
             · have : (curveR xs zs).1 = [] := by
                 unfold curveR
                 unfold orR at hc17
                 by_cases h1 : streamR xs ≠ 0
                 · rw [if_pos h1]
                 · rw [if_neg h1] at hc17
                   rw [if_neg h1]
                   unfold orR at hc17
                   by_cases h2 : sizesC zs ≠ 0
                   · rw [if_pos h2]
                   · rw [if_neg h2] at hc17; exact absurd rfl hc17
               rw [this]; exact Fresh.nil hb)
          | (have hin : i = zs.length := by omega
             subst hin
             refine ⟨oa, zs.length, oc, ?_, ?_⟩ <;> unfold curveR <;> rw [if_neg (by simp [hE.1]), if_neg (by simp [hE.2])]
             have := hs.ok 7 _ rfl
             rw [List.take_length] at this
             exact ⟨hb, this⟩)
theorem ref_Curve (a b : Option Addr) (n cap m c2 : Nat) (xs zs : List Int) (w : World) (hl : Rd encI w.heap.size w a n cap xs) (hz : Rd encI w.heap.size w b m c2 zs) :
    Calls Try.prog 28 #[.slice a n cap, .slice b m c2] w fun e w' => ∃ o k kc, e = .returned (.tuple #[.slice o k kc, .int .i64 (curveR xs zs).2]) ∧ Fresh encBest 24 w w' o k kc (curveR xs zs).1 := by
  have hn := hl.len
  have hm := hz.len
  have hfit := hz.fit
  subst hn
  subst hm
  refine enterQ (N := 35) (H := []) (B := w.heap.size) (args := [_, _]) Try.func28 rfl rfl rfl (Nat.le_refl _) (Sat.nil _ _) fun Q hQ => ?_
  refine wp_seq' fun K1 hK1 => ?_
  refine wp_reg ?_
  refine ol_r (r_assign rfl) rfl ?_
  refine ol_r (r_assign rfl) rfl ?_
  refine ol_nil (to_k0 (fun _ _ h => h) (hK1 _ _ ?_))
  clear hK1
  refine wp_seq' fun K2 hK2 => ?_
  refine wp_seq' fun K3 hK3 => ?_
  refine wp_reg ?_
  refine ol_r (r_move rfl) rfl ?_
  refine ol_call rfl rfl cb21 rfl (fun w1 hb1 hs1 hB1 => Calls.mono (ref_CheckStream _ _ _ xs _ (hl.at hb1 hB1)) ?_)
  rintro e w2 ⟨rfl, hb2⟩
  refine After.below rfl hb1 hs1 hB1 hb2 ?_
  clear hb2 hB1 hs1 hb1 w2 w1
  refine ol_r (r_assign rfl) rfl ?_
  refine ol_nil (to_k0 (fun _ _ h => h) (hK3 _ _ ?_))
  clear hK3
  refine wp_seq' fun K4 hK4 => ?_
  refine wp_reg ?_
  refine ol_r (r_move rfl) rfl ?_
  refine ol_r (r_neq rfl rfl) rfl ?_
  refine ol_nil (to_k0 (fun _ _ h => h) (hK4 _ _ ?_))
  clear hK4
  first | refine wp_condD rfl (fun hc14 => ?_) (fun hc14 => ?_) | refine wp_condN rfl (fun hc14 => ?_) (fun hc14 => ?_) | refine wp_condNB rfl (fun hc14 => ?_) (fun hc14 => ?_) | refine wp_cond' rfl (fun hc14 => ?_) (fun hc14 => ?_)
  · refine wp_seq' fun K5 hK5 => ?_
    refine wp_reg ?_
    refine ol_r (r_move rfl) rfl ?_
    refine ol_r (r_assign rfl) rfl ?_
    refine ol_r (r_assign rfl) rfl ?_
    refine ol_nil (to_k0 (fun _ _ h => h) (hK5 _ _ ?_))
    clear hK5
    refine hQ.ret (rvs2 (rv_t rfl) (rv_t rfl)) (fun _ _ h => h) fun w hb hs hB => ?_
    first
      | (refine ⟨none, 0, 0, ?_, ?_⟩ <;> unfold curveR <;> rw [if_pos hc14] <;> first | rfl | exact Fresh.nil hb)
      | (refine ⟨none, 0, 0, ?_, ?_⟩ <;> unfold curveR <;> rw [if_neg hc14, if_pos hc19] <;> first | rfl | exact Fresh.nil hb)
      | (have hin : i = zs.length := by omega
         subst hin
         refine ⟨oa, zs.length, oc, ?_, ?_⟩ <;> unfold curveR <;> rw [if_neg hc14, if_neg hc19]
         have := hs.ok 8 _ rfl
         rw [List.take_length] at this
         exact ⟨hb, this⟩)
  · refine wp_skip' (to_k0 (fun _ _ h => h) (hK2 _ _ ?_))
    clear hK2
    refine wp_seq' fun K6 hK6 => ?_
    refine wp_seq' fun K7 hK7 => ?_
    refine wp_reg ?_
    refine ol_r (r_move rfl) rfl ?_
    refine ol_call rfl rfl cb34 rfl (fun w1 hb1 hs1 hB1 => Calls.mono (ref_CheckSizes _ _ _ zs _ (hz.at hb1 hB1)) ?_)
    rintro e w2 ⟨rfl, hb2⟩
    refine After.below rfl hb1 hs1 hB1 hb2 ?_
    clear hb2 hB1 hs1 hb1 w2 w1
    refine ol_r (r_assign rfl) rfl ?_
    refine ol_nil (to_k0 (fun _ _ h => h) (hK7 _ _ ?_))
    clear hK7
    refine wp_seq' fun K8 hK8 => ?_
    refine wp_reg ?_
    refine ol_r (r_move rfl) rfl ?_
    refine ol_r (r_neq rfl rfl) rfl ?_
    refine ol_nil (to_k0 (fun _ _ h => h) (hK8 _ _ ?_))
    clear hK8
    first | refine wp_condD rfl (fun hc19 => ?_) (fun hc19 => ?_) | refine wp_condN rfl (fun hc19 => ?_) (fun hc19 => ?_) | refine wp_condNB rfl (fun hc19 => ?_) (fun hc19 => ?_) | refine wp_cond' rfl (fun hc19 => ?_) (fun hc19 => ?_)
    · refine wp_seq' fun K9 hK9 => ?_
      refine wp_reg ?_
      refine ol_r (r_move rfl) rfl ?_
      refine ol_r (r_assign rfl) rfl ?_
      refine ol_r (r_assign rfl) rfl ?_
      refine ol_nil (to_k0 (fun _ _ h => h) (hK9 _ _ ?_))
      clear hK9
      refine hQ.ret (rvs2 (rv_t rfl) (rv_t rfl)) (fun _ _ h => h) fun w hb hs hB => ?_
      first
        | (refine ⟨none, 0, 0, ?_, ?_⟩ <;> unfold curveR <;> rw [if_pos hc14] <;> first | rfl | exact Fresh.nil hb)
        | (refine ⟨none, 0, 0, ?_, ?_⟩ <;> unfold curveR <;> rw [if_neg hc14, if_pos hc19] <;> first | rfl | exact Fresh.nil hb)
        | (have hin : i = zs.length := by omega
           subst hin
           refine ⟨oa, zs.length, oc, ?_, ?_⟩ <;> unfold curveR <;> rw [if_neg hc14, if_neg hc19]
           have := hs.ok 8 _ rfl
           rw [List.take_length] at this
           exact ⟨hb, this⟩)
    · refine wp_skip' (to_k0 (fun _ _ h => h) (hK6 _ _ ?_))
      clear hK6
      refine wp_seq' fun K10 hK10 => ?_
      refine wp_reg ?_
      refine ol_nilrow 8 24 4 ?_
      refine ol_r (r_assign rfl) rfl ?_
      refine ol_nil (to_k0 (fun _ _ h => h) (hK10 _ _ ?_))
      clear hK10
      refine wp_seq' fun K11 hK11 => ?_
      refine wp_seq' fun K12 hK12 => ?_
      refine wp_reg ?_
      have hzk := sizesC_ok (Decidable.not_not.1 hc19)
      refine ol_r (r_move rfl) rfl ?_
      refine ol_r (r_len rfl sl22) rfl ?_
      refine ol_r (r_move rfl) rfl ?_
      refine ol_nil (to_k0 (fun _ _ h => h) (hK12 _ _ ?_))
      clear hK12
      refine wp_block' ?_
      apply wp_loopM (σ := Nat × Option Addr × Nat) (fun s => s.1 ≤ zs.length) (fun s => [(23, .int .i64 s.1), (8, .slice s.2.1 s.1 s.2.2)]) [(0, _), (4, _), (5, _), (21, _), (22, _)] (fun s => [(8, .row s.2.1 s.1 s.2.2 (encBest.enc (curveL xs (zs.take s.1))) 24 4)]) [] (fun s => zs.length - s.1) ((0, none, 0))
      · try dsimp only
        exact Nat.zero_le _
      · exact (sub_cons rfl (sub_cons rfl sub_nil))
      · exact (sub_cons rfl (sub_cons rfl (sub_cons rfl (sub_cons rfl (sub_cons rfl sub_nil)))))
      · exact (subH_row rfl (by first | (dsimp only; rfl; done) | (rfl; done) | (dsimp only; done)) subH_nil)
      · exact subH_nil
      · rintro ⟨i, oa, oc⟩ hi
        dsimp only at hi ⊢
        intro K13 hK13
        refine wp_seq' fun K14 hK14 => ?_
        refine wp_reg ?_
        refine ol_r (r_lss rfl rfl) rfl ?_
        refine ol_nil (to_k0 (fun _ _ h => h) (hK14 _ _ ?_))
        clear hK14
        refine wp_seq' fun K15 hK15 => ?_
        first | refine wp_condD rfl (fun hc24 => ?_) (fun hc24 => ?_) | refine wp_condN rfl (fun hc24 => ?_) (fun hc24 => ?_) | refine wp_condNB rfl (fun hc24 => ?_) (fun hc24 => ?_) | refine wp_cond' rfl (fun hc24 => ?_) (fun hc24 => ?_)
        · refine wp_skip' (to_k0 (fun _ _ h => h) (hK15 _ _ ?_))
          clear hK15
          refine wp_seq' fun K16 hK16 => ?_
          refine wp_block' ?_
          refine wp_seq' fun K17 hK17 => ?_
          refine wp_reg ?_
          refine ol_ixr hz rfl rfl sl22 (by omega) rfl fun x25 hx25 => ?_
          try simp only [Int.toNat_natCast] at hx25
          refine ol_r (r_ldw rfl (fun w1 hb1 hs1 hB1 => show Loads _ _ _ _ (.int .i64 x25) from Rd.loads hz ty3 hx25 hb1)) rfl ?_
          refine ol_r (r_assign rfl) rfl ?_
          refine ol_nil (to_k0 (fun _ _ h => h) (hK17 _ _ ?_))
          clear hK17
          refine wp_reg ?_
          have hq := hzk.2.2.1 _ (List.mem_of_getElem? hx25)
          obtain ⟨z, rfl⟩ := Int.eq_ofNat_of_zero_le (show 0 ≤ x25 by omega)
          refine ol_r (r_move rfl) rfl ?_
          refine ol_r (r_move rfl) rfl ?_
          refine ol_r (r_move rfl) rfl ?_
          refine ol_call rfl rfl cb71 rfl (fun w1 hb1 hs1 hB1 => Calls.mono (ref_best _ _ _ xs z _ (hl.at hb1 hB1) (by omega) (Decidable.not_not.1 hc14)) ?_)
          rintro e w2 ⟨rfl, hb2⟩
          refine After.below rfl hb1 hs1 hB1 hb2 ?_
          clear hb2 hB1 hs1 hb1 w2 w1
          refine ol_bs1 31 rfl rfl rw38 rfl rfl rfl fun a31 => ?_
          refine ol_append1 (id := 8) (id2 := 31) rfl rfl rfl rfl rfl rw38 (by omega) rfl fun a32 c32 => ?_
          refine ol_r (r_assign rfl) rfl ?_
          refine ol_nil (to_k0 (fun _ _ h => h) (hK16 _ _ ?_))
          clear hK16
          refine wp_reg ?_
          refine ol_r (r_add rfl rfl (by omega)) rfl ?_
          refine ol_r (r_move rfl) rfl ?_
          refine ol_nil (to_k0 (fun _ _ h => h) (hK13 ((i + 1, _, _)) _ _ ?_ ?_ (sub_cons rfl (sub_cons rfl sub_nil)) (sub_cons rfl (sub_cons rfl (sub_cons rfl (sub_cons rfl (sub_cons rfl sub_nil))))) (by exact (subH_row rfl (by first | (dsimp only; rw [curveL_take hx25, encBest_snoc]; rfl; done) | (rw [curveL_take hx25, encBest_snoc]; rfl; done) | (dsimp only; done)) subH_nil)) subH_nil))
          · try dsimp only
            omega
          · try dsimp only
            omega
        · refine wp_exit' (to_k0 (fun _ _ h => h) (hK11 _ _ ?_))
          clear hK11
          refine wp_seq' fun K18 hK18 => ?_
          refine wp_reg ?_
          refine ol_r (r_move rfl) rfl ?_
          refine ol_r (r_assign rfl) rfl ?_
          refine ol_r (r_assign rfl) rfl ?_
          refine ol_nil (to_k0 (fun _ _ h => h) (hK18 _ _ ?_))
          clear hK18
          refine hQ.ret (rvs2 (rv_t rfl) (rv_t rfl)) (fun _ _ h => h) fun w hb hs hB => ?_
          first
            | (refine ⟨none, 0, 0, ?_, ?_⟩ <;> unfold curveR <;> rw [if_pos hc14] <;> first | rfl | exact Fresh.nil hb)
            | (refine ⟨none, 0, 0, ?_, ?_⟩ <;> unfold curveR <;> rw [if_neg hc14, if_pos hc19] <;> first | rfl | exact Fresh.nil hb)
            | (have hin : i = zs.length := by omega
               subst hin
               refine ⟨oa, zs.length, oc, ?_, ?_⟩ <;> unfold curveR <;> rw [if_neg hc14, if_neg hc19]
               have := hs.ok 8 _ rfl
               rw [List.take_length] at this
               exact ⟨hb, this⟩)
end Go.Proofs.Ytafkojlccknicaa
