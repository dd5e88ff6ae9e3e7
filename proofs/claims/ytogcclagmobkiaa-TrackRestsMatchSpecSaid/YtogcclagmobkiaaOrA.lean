/-
  cmp.Or of error codes.
-/
import Derived.Test.YtogcclagmobkiaaEnc
import Derived.Test.YtogcclagmobkiaaLists
import Derived.Test.YtogcclagmobkiaaHx3
namespace Go.Proofs.Ytogcclagmobkiaa
open Go Go.RowKit Hx
set_option linter.unusedVariables false
set_option linter.unusedSimpArgs false
set_option maxRecDepth 8000
def orR : List Int → Int
  | [] => 0
  | x :: r => if x ≠ 0 then x else orR r
theorem orR_two (x y : Int) : orR [x, y] = if x ≠ 0 then x else y := by
  by_cases h : x = 0 <;> by_cases h1 : y = 0 <;> simp [orR, h, h1]
theorem orR2 {x y : Int} (h : ¬orR [x, y] ≠ 0) : x = 0 ∧ y = 0 := by
  have h := Decidable.not_not.1 h
  rw [orR_two] at h
  by_cases h1 : x = 0
  · rw [if_neg (fun h2 => h2 h1)] at h; exact ⟨h1, h⟩
  · rw [if_pos h1] at h; exact absurd h h1
theorem cmp_Or (a : Option Addr) (n cap : Nat) (xs : List Int) (w : World) (hl : Rd encI w.heap.size w a n cap xs) :
    Calls Try.prog 67 #[.slice a n cap] w fun e w' => e = .returned (.int .i64 (orR xs)) ∧ Below w.heap.size w w' := by
  have hn := hl.len
  have hfit := hl.fit
  subst hn
  refine enterQ (N := 18) (C := fun _ => True) (H := []) (B := w.heap.size) (args := [_]) Try.func67 rfl rfl rfl (Nat.le_refl _) (Sat.nil _ _) fun Q hQ => ?_
  refine wp_seq' fun K1 hK1 => ?_
  refine wp_reg ?_
  refine ol_r (r_assign rfl) rfl ?_
  refine ol_nil (to_k0 (fun _ _ h => h) (hK1 _ _ _ _ _ ?_))
  clear hK1
  refine wp_seq' fun K2 hK2 => ?_
  refine wp_reg ?_
  refine ol_r (r_assign rfl) rfl ?_
  refine ol_nil (to_k0 (fun _ _ h => h) (hK2 _ _ _ _ _ ?_))
  clear hK2
  refine wp_seq' fun K3 hK3 => ?_
  refine wp_seq' fun K4 hK4 => ?_
  refine wp_reg ?_
  refine ol_r (r_move rfl) rfl ?_
  refine ol_r (r_len rfl sl122) rfl ?_
  refine ol_r (r_move rfl) rfl ?_
  refine ol_nil (to_k0 (fun _ _ h => h) (hK4 _ _ _ _ _ ?_))
  clear hK4
  refine wp_block' ?_
  apply wp_loopM (σ := Nat) (fun s => s ≤ xs.length ∧ orR xs = orR (xs.drop s)) (fun s => [(8, .int .i64 s)]) [(3, _), (6, _), (7, _)] (fun s => []) [] (fun s => xs.length - s) (0)
  ·try dsimp only
   exact ⟨Nat.zero_le _, rfl⟩
  ·exact (sub_cons rfl sub_nil)
  ·exact (sub_cons rfl (sub_cons rfl (sub_cons rfl sub_nil)))
  ·exact subH_nil
  ·exact subH_nil
  ·rintro k ⟨hk, hP⟩
   intro K5 hK5
   refine wp_seq' fun K6 hK6 => ?_
   refine wp_reg ?_
   refine ol_r (r_lss rfl rfl) rfl ?_
   refine ol_nil (to_k0 (fun _ _ h => h) (hK6 _ _ _ _ _ ?_))
   clear hK6
   refine wp_seq' fun K7 hK7 => ?_
   first | refine wp_condD rfl (fun hc9 => ?_) (fun hc9 => ?_) | refine wp_condN rfl (fun hc9 => ?_) (fun hc9 => ?_) | refine wp_condNB rfl (fun hc9 => ?_) (fun hc9 => ?_) | refine wp_cond' rfl (fun hc9 => ?_) (fun hc9 => ?_)
   ·refine wp_skip' (to_k0 (fun _ _ h => h) (hK7 _ _ _ _ _ ?_))
    clear hK7
    refine wp_seq' fun K8 hK8 => ?_
    refine wp_block' ?_
    refine wp_seq' fun K9 hK9 => ?_
    refine wp_reg ?_
    refine ol_ixr hl rfl rfl sl122 (by omega) rfl fun x10 hx10 => ?_
    try simp only [Int.toNat_natCast] at hx10
    refine ol_r (r_ldw rfl (fun w1 hb1 hs1 hB1 => show Loads _ _ _ _ (.int .i64 x10) from Rd.loads hl ty29 hx10 hb1)) rfl ?_
    refine ol_r (r_assign rfl) rfl ?_
    refine ol_nil (to_k0 (fun _ _ h => h) (hK9 _ _ _ _ _ ?_))
    clear hK9
    refine wp_seq' fun K10 hK10 => ?_
    refine wp_reg ?_
    refine ol_r (r_move rfl) rfl ?_
    refine ol_r (r_move rfl) rfl ?_
    refine ol_r (r_neq rfl rfl) rfl ?_
    refine ol_nil (to_k0 (fun _ _ h => h) (hK10 _ _ _ _ _ ?_))
    clear hK10
    first | refine wp_condD rfl (fun hc14 => ?_) (fun hc14 => ?_) | refine wp_condN rfl (fun hc14 => ?_) (fun hc14 => ?_) | refine wp_condNB rfl (fun hc14 => ?_) (fun hc14 => ?_) | refine wp_cond' rfl (fun hc14 => ?_) (fun hc14 => ?_)
    ·refine wp_seq' fun K11 hK11 => ?_
     refine wp_reg ?_
     refine ol_r (r_move rfl) rfl ?_
     refine ol_r (r_assign rfl) rfl ?_
     refine ol_nil (to_k0 (fun _ _ h => h) (hK11 _ _ _ _ _ ?_))
     clear hK11
     refine hQ.ret (rvs1 (rv_t rfl)) (fun _ _ h => h) fun w hb hs hB hkd => ?_
     first
       | (refine ⟨by rw [hP, List.drop_eq_nil_of_le (by omega)]; rfl, hb⟩; done)
       | (refine ⟨by rw [hP, drop_cons_get hx10, show orR (x10 :: xs.drop (k + 1)) = x10 from if_pos hc14], hb⟩; done)
    ·refine wp_skip' (to_k0 (fun _ _ h => h) (hK8 _ _ _ _ _ ?_))
     clear hK8
     refine wp_reg ?_
     refine ol_r (r_add rfl rfl (by omega)) rfl ?_
     refine ol_r (r_move rfl) rfl ?_
     refine ol_nil (to_k0 (fun _ _ h => h) (hK5 (k + 1) _ _ ?_ ?_ (sub_cons rfl sub_nil) (sub_cons rfl (sub_cons rfl (sub_cons rfl sub_nil))) (by exact subH_nil) subH_nil))
     ·try dsimp only
      refine ⟨by omega, ?_⟩
      rw [hP, drop_cons_get hx10]
      exact if_neg hc14
     ·try dsimp only
      omega
   ·refine wp_exit' (to_k0 (fun _ _ h => h) (hK3 _ _ _ _ _ ?_))
    clear hK3
    refine wp_seq' fun K12 hK12 => ?_
    refine wp_reg ?_
    refine ol_r (r_move rfl) rfl ?_
    refine ol_r (r_assign rfl) rfl ?_
    refine ol_nil (to_k0 (fun _ _ h => h) (hK12 _ _ _ _ _ ?_))
    clear hK12
    refine hQ.ret (rvs1 (rv_t rfl)) (fun _ _ h => h) fun w hb hs hB hkd => ?_
    first
      | (refine ⟨by rw [hP, List.drop_eq_nil_of_le (by omega)]; rfl, hb⟩; done)
      | (refine ⟨by rw [hP, drop_cons_get hx10, show orR (x10 :: xs.drop (k + 1)) = x10 from if_pos hc14], hb⟩; done)
end Go.Proofs.Ytogcclagmobkiaa
