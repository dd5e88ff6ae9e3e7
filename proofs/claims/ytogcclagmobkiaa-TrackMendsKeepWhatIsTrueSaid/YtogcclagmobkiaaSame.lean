/-
  Same: two activities that read alike.
-/
import Derived.Test.YtogcclagmobkiaaClones
namespace Go.Proofs.Ytogcclagmobkiaa
open Go Go.RowKit Hx
set_option linter.unusedVariables false
set_option linter.unusedSimpArgs false
set_option maxRecDepth 8000
theorem record_Same (D : ActD) (za : Option Addr) (zn zc : Nat) (ma : Option Addr) (mn mc : Nat) (ua : Option Addr) (un uc : Nat) (sa : Option Addr) (sn sc : Nat) (la : Option Addr) (ln lc : Nat) (ta : Option Addr) (tn tc : Nat) (w : World)
    (g1 : Rd encSmp w.heap.size w za zn zc D.ss) (g2 : Rd encLap w.heap.size w ma mn mc D.ls) (g3 : Rd encStr w.heap.size w ua un uc D.ts) (h1 : Rd encSmp w.heap.size w sa sn sc D.ss) (h2 : Rd encLap w.heap.size w la ln lc D.ls) (h3 : Rd encStr w.heap.size w ta tn tc D.ts) :
    Calls Try.prog 15 #[.agg #[.string D.name, .int .i64 D.sport, .int .i64 D.start, .slice za zn zc, .slice ma mn mc, .slice ua un uc], .agg #[.string D.name, .int .i64 D.sport, .int .i64 D.start, .slice sa sn sc, .slice la ln lc, .slice ta tn tc]] w fun e w' => e = .returned (.bool true) ∧ Below w.heap.size w w' := by
  obtain rfl : sn = zn := by rw [← h1.len, ← g1.len]
  obtain rfl : ln = mn := by rw [← h2.len, ← g2.len]
  obtain rfl : tn = un := by rw [← h3.len, ← g3.len]
  refine enterQ (N := 45) (C := fun _ => True) (H := []) (B := w.heap.size) (args := [_, _]) Try.func15 rfl rfl rfl (Nat.le_refl _) (Sat.nil _ _) fun Q hQ => ?_
  refine wp_seq' fun K1 hK1 => ?_
  refine wp_reg ?_
  refine ol_box 2 rfl rfl rfl fun b2 => ?_
  refine ol_box 3 rfl rfl rfl fun b3 => ?_
  refine ol_r (r_assign rfl) rfl ?_
  refine ol_nil (to_k0 (fun _ _ h => h) (hK1 _ _ _ _ _ ?_))
  clear hK1
  refine wp_seq' fun K2 hK2 => ?_
  refine wp_reg ?_
  refine ol_r (r_fa (o' := 0) rfl fl26_0 rfl) rfl ?_
  refine ol_r (r_ld (id := 2) rfl rfl rfl sc9) rfl ?_
  refine ol_r (r_fa (o' := 0) rfl fl26_0 rfl) rfl ?_
  refine ol_r (r_ld (id := 3) rfl rfl rfl sc9) rfl ?_
  refine ol_r (r_seql rfl rfl) rfl ?_
  refine ol_r (r_move rfl) rfl ?_
  refine ol_split (d := 10) rfl (fun hs10 => ?_) (fun hs10 => ?_)
  ·have phs10 := hs10; try simp only [decide_eq_true_eq, decide_eq_false_iff_not, Bool.not_eq_true', Bool.not_eq_false', Bool.not_true, Bool.not_false] at phs10
   refine ol_g rfl rfl hs10 ?_
   refine ol_r (r_fa (o' := 1) rfl fl26_1 rfl) rfl ?_
   refine ol_g rfl rfl hs10 ?_
   refine ol_r (r_ld (id := 2) rfl rfl rfl sc3) rfl ?_
   refine ol_g rfl rfl hs10 ?_
   refine ol_r (r_fa (o' := 1) rfl fl26_1 rfl) rfl ?_
   refine ol_g rfl rfl hs10 ?_
   refine ol_r (r_ld (id := 3) rfl rfl rfl sc3) rfl ?_
   refine ol_g rfl rfl hs10 ?_
   refine ol_r (r_eql rfl rfl) rfl ?_
   refine ol_r (r_pickT rfl hs10 rfl) rfl ?_
   refine ol_r (r_move rfl) rfl ?_
   refine ol_split (d := 17) rfl (fun hs17 => ?_) (fun hs17 => ?_)
   ·have phs17 := hs17; try simp only [decide_eq_true_eq, decide_eq_false_iff_not, Bool.not_eq_true', Bool.not_eq_false', Bool.not_true, Bool.not_false] at phs17
    refine ol_g rfl rfl hs17 ?_
    refine ol_r (r_fa (o' := 2) rfl fl26_2 rfl) rfl ?_
    refine ol_g rfl rfl hs17 ?_
    refine ol_r (r_ld (id := 2) rfl rfl rfl sc3) rfl ?_
    refine ol_g rfl rfl hs17 ?_
    refine ol_r (r_fa (o' := 2) rfl fl26_2 rfl) rfl ?_
    refine ol_g rfl rfl hs17 ?_
    refine ol_r (r_ld (id := 3) rfl rfl rfl sc3) rfl ?_
    refine ol_g rfl rfl hs17 ?_
    refine ol_r (r_eql rfl rfl) rfl ?_
    refine ol_r (r_pickT rfl hs17 rfl) rfl ?_
    refine ol_r (r_move rfl) rfl ?_
    refine ol_split (d := 24) rfl (fun hs24 => ?_) (fun hs24 => ?_)
    ·have phs24 := hs24; try simp only [decide_eq_true_eq, decide_eq_false_iff_not, Bool.not_eq_true', Bool.not_eq_false', Bool.not_true, Bool.not_false] at phs24
     refine ol_g rfl rfl hs24 ?_
     refine ol_r (r_fa (o' := 3) rfl fl26_3 rfl) rfl ?_
     refine ol_g rfl rfl hs24 ?_
     refine ol_r (r_ld (id := 2) rfl rfl rfl sc22) rfl ?_
     refine ol_g rfl rfl hs24 ?_
     refine ol_r (r_fa (o' := 3) rfl fl26_3 rfl) rfl ?_
     refine ol_g rfl rfl hs24 ?_
     refine ol_r (r_ld (id := 3) rfl rfl rfl sc22) rfl ?_
     refine ol_g rfl rfl hs24 ?_
     refine ol_call rfl rfl cb50 rfl (fun w1 hb1 hs1 hB1 => Calls.mono (equal_smp_same _ _ _ _ _ D.ss _ (g1.at hb1 hB1) (h1.at hb1 hB1)) ?_)
     rintro e w2 ⟨rfl, hb2⟩
     refine After.below rfl hb1 hs1 hB1 hb2 ?_
     clear hb2 hB1 hs1 hb1 w2 w1
     refine ol_r (r_pickT rfl hs24 rfl) rfl ?_
     refine ol_r (r_move rfl) rfl ?_
     refine ol_split (d := 31) rfl (fun hs31 => ?_) (fun hs31 => ?_)
     ·have phs31 := hs31; try simp only [decide_eq_true_eq, decide_eq_false_iff_not, Bool.not_eq_true', Bool.not_eq_false', Bool.not_true, Bool.not_false] at phs31
      refine ol_g rfl rfl hs31 ?_
      refine ol_r (r_fa (o' := 4) rfl fl26_4 rfl) rfl ?_
      refine ol_g rfl rfl hs31 ?_
      refine ol_r (r_ld (id := 2) rfl rfl rfl sc23) rfl ?_
      refine ol_g rfl rfl hs31 ?_
      refine ol_r (r_fa (o' := 4) rfl fl26_4 rfl) rfl ?_
      refine ol_g rfl rfl hs31 ?_
      refine ol_r (r_ld (id := 3) rfl rfl rfl sc23) rfl ?_
      refine ol_g rfl rfl hs31 ?_
      refine ol_call rfl rfl cb51 rfl (fun w1 hb1 hs1 hB1 => Calls.mono (equal_lap_same _ _ _ _ _ D.ls _ (g2.at hb1 hB1) (h2.at hb1 hB1)) ?_)
      rintro e w2 ⟨rfl, hb2⟩
      refine After.below rfl hb1 hs1 hB1 hb2 ?_
      clear hb2 hB1 hs1 hb1 w2 w1
      refine ol_r (r_pickT rfl hs31 rfl) rfl ?_
      refine ol_r (r_move rfl) rfl ?_
      refine ol_split (d := 38) rfl (fun hs38 => ?_) (fun hs38 => ?_)
      ·have phs38 := hs38; try simp only [decide_eq_true_eq, decide_eq_false_iff_not, Bool.not_eq_true', Bool.not_eq_false', Bool.not_true, Bool.not_false] at phs38
       refine ol_g rfl rfl hs38 ?_
       refine ol_r (r_fa (o' := 5) rfl fl26_5 rfl) rfl ?_
       refine ol_g rfl rfl hs38 ?_
       refine ol_r (r_ld (id := 2) rfl rfl rfl sc24) rfl ?_
       refine ol_g rfl rfl hs38 ?_
       refine ol_r (r_fa (o' := 5) rfl fl26_5 rfl) rfl ?_
       refine ol_g rfl rfl hs38 ?_
       refine ol_r (r_ld (id := 3) rfl rfl rfl sc24) rfl ?_
       refine ol_g rfl rfl hs38 ?_
       refine ol_call rfl rfl cb52 rfl (fun w1 hb1 hs1 hB1 => Calls.mono (equal_str_same _ _ _ _ _ D.ts _ (g3.at hb1 hB1) (h3.at hb1 hB1)) ?_)
       rintro e w2 ⟨rfl, hb2⟩
       refine After.below rfl hb1 hs1 hB1 hb2 ?_
       clear hb2 hB1 hs1 hb1 w2 w1
       refine ol_r (r_pickT rfl hs38 rfl) rfl ?_
       refine ol_r (r_assign rfl) rfl ?_
       refine ol_nil (to_k0 (fun _ _ h => h) (hK2 _ _ _ _ _ ?_))
       clear hK2
       refine hQ.ret (rvs1 (rv_t rfl)) (fun _ _ h => h) fun w hb hs hB hkd => ?_
       first
         | exact ⟨rfl, hb⟩
      ·have phs38 := hs38; try simp only [decide_eq_true_eq, decide_eq_false_iff_not, Bool.not_eq_true', Bool.not_eq_false', Bool.not_true, Bool.not_false] at phs38
       refine ol_s rfl rfl hs38 rfl ?_
       refine ol_s rfl rfl hs38 rfl ?_
       refine ol_s rfl rfl hs38 rfl ?_
       refine ol_s rfl rfl hs38 rfl ?_
       refine ol_s rfl rfl hs38 rfl ?_
       refine ol_r (r_pickF rfl hs38 rfl) rfl ?_
       refine ol_r (r_assign rfl) rfl ?_
       refine ol_nil (to_k0 (fun _ _ h => h) (hK2 _ _ _ _ _ ?_))
       clear hK2
       refine hQ.ret (rvs1 (rv_t rfl)) (fun _ _ h => h) fun w hb hs hB hkd => ?_
       first
         | (exfalso; cases hs38; done)
     ·have phs31 := hs31; try simp only [decide_eq_true_eq, decide_eq_false_iff_not, Bool.not_eq_true', Bool.not_eq_false', Bool.not_true, Bool.not_false] at phs31
      refine ol_s rfl rfl hs31 rfl ?_
      refine ol_s rfl rfl hs31 rfl ?_
      refine ol_s rfl rfl hs31 rfl ?_
      refine ol_s rfl rfl hs31 rfl ?_
      refine ol_s rfl rfl hs31 rfl ?_
      refine ol_r (r_pickF rfl hs31 rfl) rfl ?_
      refine ol_r (r_move rfl) rfl ?_
      refine ol_s rfl rfl rfl rfl ?_
      refine ol_s rfl rfl rfl rfl ?_
      refine ol_s rfl rfl rfl rfl ?_
      refine ol_s rfl rfl rfl rfl ?_
      refine ol_s rfl rfl rfl rfl ?_
      refine ol_r (r_pickF rfl rfl rfl) rfl ?_
      refine ol_r (r_assign rfl) rfl ?_
      refine ol_nil (to_k0 (fun _ _ h => h) (hK2 _ _ _ _ _ ?_))
      clear hK2
      refine hQ.ret (rvs1 (rv_t rfl)) (fun _ _ h => h) fun w hb hs hB hkd => ?_
      first
        | (exfalso; cases hs31; done)
    ·have phs24 := hs24; try simp only [decide_eq_true_eq, decide_eq_false_iff_not, Bool.not_eq_true', Bool.not_eq_false', Bool.not_true, Bool.not_false] at phs24
     refine ol_s rfl rfl hs24 rfl ?_
     refine ol_s rfl rfl hs24 rfl ?_
     refine ol_s rfl rfl hs24 rfl ?_
     refine ol_s rfl rfl hs24 rfl ?_
     refine ol_s rfl rfl hs24 rfl ?_
     refine ol_r (r_pickF rfl hs24 rfl) rfl ?_
     refine ol_r (r_move rfl) rfl ?_
     refine ol_s rfl rfl rfl rfl ?_
     refine ol_s rfl rfl rfl rfl ?_
     refine ol_s rfl rfl rfl rfl ?_
     refine ol_s rfl rfl rfl rfl ?_
     refine ol_s rfl rfl rfl rfl ?_
     refine ol_r (r_pickF rfl rfl rfl) rfl ?_
     refine ol_r (r_move rfl) rfl ?_
     refine ol_s rfl rfl rfl rfl ?_
     refine ol_s rfl rfl rfl rfl ?_
     refine ol_s rfl rfl rfl rfl ?_
     refine ol_s rfl rfl rfl rfl ?_
     refine ol_s rfl rfl rfl rfl ?_
     refine ol_r (r_pickF rfl rfl rfl) rfl ?_
     refine ol_r (r_assign rfl) rfl ?_
     refine ol_nil (to_k0 (fun _ _ h => h) (hK2 _ _ _ _ _ ?_))
     clear hK2
     refine hQ.ret (rvs1 (rv_t rfl)) (fun _ _ h => h) fun w hb hs hB hkd => ?_
     first
       | (exfalso; simp at phs24; done)
   ·have phs17 := hs17; try simp only [decide_eq_true_eq, decide_eq_false_iff_not, Bool.not_eq_true', Bool.not_eq_false', Bool.not_true, Bool.not_false] at phs17
    refine ol_s rfl rfl hs17 rfl ?_
    refine ol_s rfl rfl hs17 rfl ?_
    refine ol_s rfl rfl hs17 rfl ?_
    refine ol_s rfl rfl hs17 rfl ?_
    refine ol_s rfl rfl hs17 rfl ?_
    refine ol_r (r_pickF rfl hs17 rfl) rfl ?_
    refine ol_r (r_move rfl) rfl ?_
    refine ol_s rfl rfl rfl rfl ?_
    refine ol_s rfl rfl rfl rfl ?_
    refine ol_s rfl rfl rfl rfl ?_
    refine ol_s rfl rfl rfl rfl ?_
    refine ol_s rfl rfl rfl rfl ?_
    refine ol_r (r_pickF rfl rfl rfl) rfl ?_
    refine ol_r (r_move rfl) rfl ?_
    refine ol_s rfl rfl rfl rfl ?_
    refine ol_s rfl rfl rfl rfl ?_
    refine ol_s rfl rfl rfl rfl ?_
    refine ol_s rfl rfl rfl rfl ?_
    refine ol_s rfl rfl rfl rfl ?_
    refine ol_r (r_pickF rfl rfl rfl) rfl ?_
    refine ol_r (r_move rfl) rfl ?_
    refine ol_s rfl rfl rfl rfl ?_
    refine ol_s rfl rfl rfl rfl ?_
    refine ol_s rfl rfl rfl rfl ?_
    refine ol_s rfl rfl rfl rfl ?_
    refine ol_s rfl rfl rfl rfl ?_
    refine ol_r (r_pickF rfl rfl rfl) rfl ?_
    refine ol_r (r_assign rfl) rfl ?_
    refine ol_nil (to_k0 (fun _ _ h => h) (hK2 _ _ _ _ _ ?_))
    clear hK2
    refine hQ.ret (rvs1 (rv_t rfl)) (fun _ _ h => h) fun w hb hs hB hkd => ?_
    first
      | (exfalso; simp at phs17; done)
  ·have phs10 := hs10; try simp only [decide_eq_true_eq, decide_eq_false_iff_not, Bool.not_eq_true', Bool.not_eq_false', Bool.not_true, Bool.not_false] at phs10
   refine ol_s rfl rfl hs10 rfl ?_
   refine ol_s rfl rfl hs10 rfl ?_
   refine ol_s rfl rfl hs10 rfl ?_
   refine ol_s rfl rfl hs10 rfl ?_
   refine ol_s rfl rfl hs10 rfl ?_
   refine ol_r (r_pickF rfl hs10 rfl) rfl ?_
   refine ol_r (r_move rfl) rfl ?_
   refine ol_s rfl rfl rfl rfl ?_
   refine ol_s rfl rfl rfl rfl ?_
   refine ol_s rfl rfl rfl rfl ?_
   refine ol_s rfl rfl rfl rfl ?_
   refine ol_s rfl rfl rfl rfl ?_
   refine ol_r (r_pickF rfl rfl rfl) rfl ?_
   refine ol_r (r_move rfl) rfl ?_
   refine ol_s rfl rfl rfl rfl ?_
   refine ol_s rfl rfl rfl rfl ?_
   refine ol_s rfl rfl rfl rfl ?_
   refine ol_s rfl rfl rfl rfl ?_
   refine ol_s rfl rfl rfl rfl ?_
   refine ol_r (r_pickF rfl rfl rfl) rfl ?_
   refine ol_r (r_move rfl) rfl ?_
   refine ol_s rfl rfl rfl rfl ?_
   refine ol_s rfl rfl rfl rfl ?_
   refine ol_s rfl rfl rfl rfl ?_
   refine ol_s rfl rfl rfl rfl ?_
   refine ol_s rfl rfl rfl rfl ?_
   refine ol_r (r_pickF rfl rfl rfl) rfl ?_
   refine ol_r (r_move rfl) rfl ?_
   refine ol_s rfl rfl rfl rfl ?_
   refine ol_s rfl rfl rfl rfl ?_
   refine ol_s rfl rfl rfl rfl ?_
   refine ol_s rfl rfl rfl rfl ?_
   refine ol_s rfl rfl rfl rfl ?_
   refine ol_r (r_pickF rfl rfl rfl) rfl ?_
   refine ol_r (r_assign rfl) rfl ?_
   refine ol_nil (to_k0 (fun _ _ h => h) (hK2 _ _ _ _ _ ?_))
   clear hK2
   refine hQ.ret (rvs1 (rv_t rfl)) (fun _ _ h => h) fun w hb hs hB hkd => ?_
   first
     | (exfalso; rw [sEq_refl] at hs10; cases hs10; done)
end Go.Proofs.Ytogcclagmobkiaa
