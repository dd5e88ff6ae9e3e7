/-
  slices.Clone and slices.Equal of samples, laps and strings.
-/
import Derived.Test.YtogcclagmobkiaaEncAct
import Derived.Test.YtogcclagmobkiaaSlices
import Derived.Test.YtogcclagmobkiaaHx3
namespace Go.Proofs.Ytogcclagmobkiaa
open Go Go.RowKit Hx
set_option linter.unusedVariables false
set_option linter.unusedSimpArgs false
set_option maxRecDepth 8000
theorem ba_beq (a : ByteArray) : (a == a) = true := by
  first
    | exact beq_self_eq_true a
    | (show (a.data == a.data) = true; exact beq_self_eq_true _)
theorem sEq_refl (a : ByteArray) : sEq a a = true := by unfold sEq; exact beq_self_eq_true _
theorem clone_smp (a : Option Addr) (n c1 : Nat) (xs : List SmpR) (w : World) (hx : Rd encSmp w.heap.size w a n c1 xs) (hn : n ≤ 1000000) :
    Calls Try.prog 102 #[.slice a n c1] w fun e w' => ∃ b m k, e = .returned (.slice b m k) ∧ Fresh encSmp 28 w w' b m k xs := by
  have hl := hx.len
  refine enterQ (N := 8) (C := fun _ => True) (H := []) (B := w.heap.size) (args := [_]) Try.func102 rfl rfl rfl (Nat.le_refl _) (Sat.nil _ _) fun Q hQ => ?_
  refine wp_seq' fun K1 hK1 => ?_
  refine wp_reg ?_
  refine ol_r (r_assign rfl) rfl ?_
  refine ol_nil (to_k0 (fun _ _ h => h) (hK1 _ _ _ _ _ ?_))
  clear hK1
  refine wp_seq' fun K2 hK2 => ?_
  refine wp_seq' fun K3 hK3 => ?_
  refine wp_reg ?_
  refine ol_r (r_move rfl) rfl ?_
  refine ol_r (r_snil rfl rfl sl22) rfl ?_
  refine ol_nil (to_k0 (fun _ _ h => h) (hK3 _ _ _ _ _ ?_))
  clear hK3
  refine wp_cond' rfl (fun hc4 => ?_) (fun hc4 => ?_)
  ·refine wp_seq' fun K4 hK4 => ?_
   refine wp_reg ?_
   refine ol_r (r_assign rfl) rfl ?_
   refine ol_nil (to_k0 (fun _ _ h => h) (hK4 _ _ _ _ _ ?_))
   clear hK4
   refine hQ.ret (rvs1 (rv_t rfl)) (fun _ _ h => h) fun w hb hs hB hkd => ?_
   have h0 : n = 0 := by
     cases n with
     | zero => rfl
     | succ m => have := hx.isSome (by omega); cases a <;> simp at this hc4
   have : xs = [] := List.eq_nil_of_length_eq_zero (by omega)
   subst this
   exact ⟨none, 0, 0, rfl, Fresh.nil hb⟩
  ·refine wp_skip' (to_k0 (fun _ _ h => h) (hK2 _ _ _ _ _ ?_))
   clear hK2
   refine wp_seq' fun K5 hK5 => ?_
   refine wp_reg ?_
   refine ol_bs0 5 rw22 rfl fun b5 => ?_
   refine ol_r (r_move rfl) rfl ?_
   refine ol_append (id := 5) (news := encSmp.enc xs) rfl rfl rfl rw22 (by rw [Enc.enc_len, hl]; rfl) (encSmp.ones_enc xs) (fun w1 hb1 hs1 hB1 => ?_) (by omega) rfl fun a7 c7 => ?_
   · obtain ⟨p, hp⟩ : ∃ p, a = some p := by cases a with | none => simp at hc4 | some p => exact ⟨p, rfl⟩
     exact ⟨p, hp, (hx.below hb1).flat hp⟩
   refine ol_r (r_assign rfl) rfl ?_
   refine ol_nil (to_k0 (fun _ _ h => h) (hK5 _ _ _ _ _ ?_))
   clear hK5
   refine hQ.ret (rvs1 (rv_t rfl)) (fun _ _ h => h) fun w hb hs hB hkd => ?_
   refine ⟨a7, 0 + n, c7, rfl, hb, ?_⟩
   have := hs.ok 5 _ rfl
   exact this
theorem equal_smp_same (a b : Option Addr) (n c1 c2 : Nat) (xs : List SmpR) (w : World) (hx : Rd encSmp w.heap.size w a n c1 xs) (hy : Rd encSmp w.heap.size w b n c2 xs) :
    Calls Try.prog 50 #[.slice a n c1, .slice b n c2] w fun e w' => e = .returned (.bool true) ∧ Below w.heap.size w w' := by
  have hn := hx.len
  have hf := hx.fit
  refine enterQ (N := 26) (C := fun _ => True) (H := []) (B := w.heap.size) (args := [_, _]) Try.func50 rfl rfl rfl (Nat.le_refl _) (Sat.nil _ _) fun Q hQ => ?_
  refine wp_seq' fun K1 hK1 => ?_
  refine wp_reg ?_
  refine ol_r (r_assign rfl) rfl ?_
  refine ol_nil (to_k0 (fun _ _ h => h) (hK1 _ _ _ _ _ ?_))
  clear hK1
  refine wp_seq' fun K2 hK2 => ?_
  refine wp_seq' fun K3 hK3 => ?_
  refine wp_reg ?_
  refine ol_r (r_move rfl) rfl ?_
  refine ol_r (r_len rfl sl22) rfl ?_
  refine ol_r (r_move rfl) rfl ?_
  refine ol_r (r_len rfl sl22) rfl ?_
  refine ol_r (r_neq rfl rfl) rfl ?_
  refine ol_nil (to_k0 (fun _ _ h => h) (hK3 _ _ _ _ _ ?_))
  clear hK3
  refine wp_condD rfl (fun hc10 => ?_) (fun hc10 => ?_)
  ·refine wp_seq' fun K4 hK4 => ?_
   refine wp_reg ?_
   refine ol_r (r_assign rfl) rfl ?_
   refine ol_nil (to_k0 (fun _ _ h => h) (hK4 _ _ _ _ _ ?_))
   clear hK4
   refine hQ.ret (rvs1 (rv_t rfl)) (fun _ _ h => h) fun w hb hs hB hkd => ?_
   first
     | (exfalso; omega)
  ·refine wp_skip' (to_k0 (fun _ _ h => h) (hK2 _ _ _ _ _ ?_))
   clear hK2
   refine wp_seq' fun K5 hK5 => ?_
   refine wp_seq' fun K6 hK6 => ?_
   refine wp_reg ?_
   refine ol_r (r_move rfl) rfl ?_
   refine ol_r (r_len rfl sl22) rfl ?_
   refine ol_r (r_move rfl) rfl ?_
   refine ol_nil (to_k0 (fun _ _ h => h) (hK6 _ _ _ _ _ ?_))
   clear hK6
   refine wp_block' ?_
   apply wp_loopM (σ := Nat) (fun s => s ≤ n) (fun s => [(13, .int .i64 s)]) [(0, _), (1, _), (12, _)] (fun s => []) [] (fun s => n - s) (0)
   ·try dsimp only
    simp
   ·exact (sub_cons rfl sub_nil)
   ·exact (sub_cons rfl (sub_cons rfl (sub_cons rfl sub_nil)))
   ·exact subH_nil
   ·exact subH_nil
   ·intro k hk
    intro K7 hK7
    refine wp_seq' fun K8 hK8 => ?_
    refine wp_reg ?_
    refine ol_r (r_lss rfl rfl) rfl ?_
    refine ol_nil (to_k0 (fun _ _ h => h) (hK8 _ _ _ _ _ ?_))
    clear hK8
    refine wp_seq' fun K9 hK9 => ?_
    refine wp_condD rfl (fun hc14 => ?_) (fun hc14 => ?_)
    ·refine wp_skip' (to_k0 (fun _ _ h => h) (hK9 _ _ _ _ _ ?_))
     clear hK9
     refine wp_seq' fun K10 hK10 => ?_
     refine wp_block' ?_
     refine wp_seq' fun K11 hK11 => ?_
     refine wp_reg ?_
     refine ol_r (r_move rfl) rfl ?_
     refine ol_r (r_assign rfl) rfl ?_
     refine ol_nil (to_k0 (fun _ _ h => h) (hK11 _ _ _ _ _ ?_))
     clear hK11
     refine wp_seq' fun K12 hK12 => ?_
     refine wp_regq (by kernel_rfl) (by kernel_rfl) ?_
     refine ql_r (r_move rfl) rfl ?_
     refine ql_r (r_move rfl) rfl ?_
     refine ql_ixr hx rfl rfl sl22 (by omega) rfl fun x18 hx18 => ?_
     try simp only [Int.toNat_natCast] at hx18
     refine ql_r (r_ldw rfl (fun w1 hb1 hs1 hB1 => Rd.loads hx ty28 hx18 hb1)) rfl ?_
     refine ql_r (r_move rfl) rfl ?_
     refine ql_r (r_move rfl) rfl ?_
     refine ql_ixr hy rfl rfl sl22 (by omega) rfl fun x22 hx22 => ?_
     try simp only [Int.toNat_natCast] at hx22
     have h22 : x22 = x18 := by rw [hx18] at hx22; cases hx22; rfl
     subst h22
     refine ql_r (r_ldw rfl (fun w1 hb1 hs1 hB1 => Rd.loads hy ty28 hx22 hb1)) rfl ?_
     refine ql_r (r_nes rfl rfl (by kernel_rfl) (fun w => run_eqs (by kernel_rfl) (by kernel_rfl) w)) rfl ?_
     refine ql_nil (to_k0 (fun _ _ h => h) (hK12 _ _ _ _ _ ?_))
     clear hK12
     refine wp_condNB rfl (fun hc24 => ?_) (fun hc24 => ?_)
     ·refine wp_seq' fun K13 hK13 => ?_
      refine wp_reg ?_
      refine ol_r (r_assign rfl) rfl ?_
      refine ol_nil (to_k0 (fun _ _ h => h) (hK13 _ _ _ _ _ ?_))
      clear hK13
      refine hQ.ret (rvs1 (rv_t rfl)) (fun _ _ h => h) fun w hb hs hB hkd => ?_
      first
        | (exfalso; simp [eqs, eqV, encSmp] at hc24; done)
     ·refine wp_skip' (to_k0 (fun _ _ h => h) (hK10 _ _ _ _ _ ?_))
      clear hK10
      refine wp_reg ?_
      refine ol_r (r_add rfl rfl (by omega)) rfl ?_
      refine ol_r (r_move rfl) rfl ?_
      refine ol_nil (to_k0 (fun _ _ h => h) (hK7 (k + 1) _ _ ?_ ?_ (sub_cons rfl sub_nil) (sub_cons rfl (sub_cons rfl (sub_cons rfl sub_nil))) (by exact subH_nil) subH_nil))
      ·try dsimp only
       omega
      ·try dsimp only
       omega
    ·refine wp_exit' (to_k0 (fun _ _ h => h) (hK5 _ _ _ _ _ ?_))
     clear hK5
     refine wp_seq' fun K14 hK14 => ?_
     refine wp_reg ?_
     refine ol_r (r_assign rfl) rfl ?_
     refine ol_nil (to_k0 (fun _ _ h => h) (hK14 _ _ _ _ _ ?_))
     clear hK14
     refine hQ.ret (rvs1 (rv_t rfl)) (fun _ _ h => h) fun w hb hs hB hkd => ?_
     first
       | exact ⟨rfl, hb⟩
theorem clone_lap (a : Option Addr) (n c1 : Nat) (xs : List LapR) (w : World) (hx : Rd encLap w.heap.size w a n c1 xs) (hn : n ≤ 1000000) :
    Calls Try.prog 103 #[.slice a n c1] w fun e w' => ∃ b m k, e = .returned (.slice b m k) ∧ Fresh encLap 66 w w' b m k xs := by
  have hl := hx.len
  refine enterQ (N := 8) (C := fun _ => True) (H := []) (B := w.heap.size) (args := [_]) Try.func103 rfl rfl rfl (Nat.le_refl _) (Sat.nil _ _) fun Q hQ => ?_
  refine wp_seq' fun K1 hK1 => ?_
  refine wp_reg ?_
  refine ol_r (r_assign rfl) rfl ?_
  refine ol_nil (to_k0 (fun _ _ h => h) (hK1 _ _ _ _ _ ?_))
  clear hK1
  refine wp_seq' fun K2 hK2 => ?_
  refine wp_seq' fun K3 hK3 => ?_
  refine wp_reg ?_
  refine ol_r (r_move rfl) rfl ?_
  refine ol_r (r_snil rfl rfl sl23) rfl ?_
  refine ol_nil (to_k0 (fun _ _ h => h) (hK3 _ _ _ _ _ ?_))
  clear hK3
  refine wp_cond' rfl (fun hc4 => ?_) (fun hc4 => ?_)
  ·refine wp_seq' fun K4 hK4 => ?_
   refine wp_reg ?_
   refine ol_r (r_assign rfl) rfl ?_
   refine ol_nil (to_k0 (fun _ _ h => h) (hK4 _ _ _ _ _ ?_))
   clear hK4
   refine hQ.ret (rvs1 (rv_t rfl)) (fun _ _ h => h) fun w hb hs hB hkd => ?_
   have h0 : n = 0 := by
     cases n with
     | zero => rfl
     | succ m => have := hx.isSome (by omega); cases a <;> simp at this hc4
   have : xs = [] := List.eq_nil_of_length_eq_zero (by omega)
   subst this
   exact ⟨none, 0, 0, rfl, Fresh.nil hb⟩
  ·refine wp_skip' (to_k0 (fun _ _ h => h) (hK2 _ _ _ _ _ ?_))
   clear hK2
   refine wp_seq' fun K5 hK5 => ?_
   refine wp_reg ?_
   refine ol_bs0 5 rw23 rfl fun b5 => ?_
   refine ol_r (r_move rfl) rfl ?_
   refine ol_append (id := 5) (news := encLap.enc xs) rfl rfl rfl rw23 (by rw [Enc.enc_len, hl]; rfl) (encLap.ones_enc xs) (fun w1 hb1 hs1 hB1 => ?_) (by omega) rfl fun a7 c7 => ?_
   · obtain ⟨p, hp⟩ : ∃ p, a = some p := by cases a with | none => simp at hc4 | some p => exact ⟨p, rfl⟩
     exact ⟨p, hp, (hx.below hb1).flat hp⟩
   refine ol_r (r_assign rfl) rfl ?_
   refine ol_nil (to_k0 (fun _ _ h => h) (hK5 _ _ _ _ _ ?_))
   clear hK5
   refine hQ.ret (rvs1 (rv_t rfl)) (fun _ _ h => h) fun w hb hs hB hkd => ?_
   refine ⟨a7, 0 + n, c7, rfl, hb, ?_⟩
   have := hs.ok 5 _ rfl
   exact this
theorem equal_lap_same (a b : Option Addr) (n c1 c2 : Nat) (xs : List LapR) (w : World) (hx : Rd encLap w.heap.size w a n c1 xs) (hy : Rd encLap w.heap.size w b n c2 xs) :
    Calls Try.prog 51 #[.slice a n c1, .slice b n c2] w fun e w' => e = .returned (.bool true) ∧ Below w.heap.size w w' := by
  have hn := hx.len
  have hf := hx.fit
  refine enterQ (N := 26) (C := fun _ => True) (H := []) (B := w.heap.size) (args := [_, _]) Try.func51 rfl rfl rfl (Nat.le_refl _) (Sat.nil _ _) fun Q hQ => ?_
  refine wp_seq' fun K1 hK1 => ?_
  refine wp_reg ?_
  refine ol_r (r_assign rfl) rfl ?_
  refine ol_nil (to_k0 (fun _ _ h => h) (hK1 _ _ _ _ _ ?_))
  clear hK1
  refine wp_seq' fun K2 hK2 => ?_
  refine wp_seq' fun K3 hK3 => ?_
  refine wp_reg ?_
  refine ol_r (r_move rfl) rfl ?_
  refine ol_r (r_len rfl sl23) rfl ?_
  refine ol_r (r_move rfl) rfl ?_
  refine ol_r (r_len rfl sl23) rfl ?_
  refine ol_r (r_neq rfl rfl) rfl ?_
  refine ol_nil (to_k0 (fun _ _ h => h) (hK3 _ _ _ _ _ ?_))
  clear hK3
  refine wp_condD rfl (fun hc10 => ?_) (fun hc10 => ?_)
  ·refine wp_seq' fun K4 hK4 => ?_
   refine wp_reg ?_
   refine ol_r (r_assign rfl) rfl ?_
   refine ol_nil (to_k0 (fun _ _ h => h) (hK4 _ _ _ _ _ ?_))
   clear hK4
   refine hQ.ret (rvs1 (rv_t rfl)) (fun _ _ h => h) fun w hb hs hB hkd => ?_
   first
     | (exfalso; omega)
  ·refine wp_skip' (to_k0 (fun _ _ h => h) (hK2 _ _ _ _ _ ?_))
   clear hK2
   refine wp_seq' fun K5 hK5 => ?_
   refine wp_seq' fun K6 hK6 => ?_
   refine wp_reg ?_
   refine ol_r (r_move rfl) rfl ?_
   refine ol_r (r_len rfl sl23) rfl ?_
   refine ol_r (r_move rfl) rfl ?_
   refine ol_nil (to_k0 (fun _ _ h => h) (hK6 _ _ _ _ _ ?_))
   clear hK6
   refine wp_block' ?_
   apply wp_loopM (σ := Nat) (fun s => s ≤ n) (fun s => [(13, .int .i64 s)]) [(0, _), (1, _), (12, _)] (fun s => []) [] (fun s => n - s) (0)
   ·try dsimp only
    simp
   ·exact (sub_cons rfl sub_nil)
   ·exact (sub_cons rfl (sub_cons rfl (sub_cons rfl sub_nil)))
   ·exact subH_nil
   ·exact subH_nil
   ·intro k hk
    intro K7 hK7
    refine wp_seq' fun K8 hK8 => ?_
    refine wp_reg ?_
    refine ol_r (r_lss rfl rfl) rfl ?_
    refine ol_nil (to_k0 (fun _ _ h => h) (hK8 _ _ _ _ _ ?_))
    clear hK8
    refine wp_seq' fun K9 hK9 => ?_
    refine wp_condD rfl (fun hc14 => ?_) (fun hc14 => ?_)
    ·refine wp_skip' (to_k0 (fun _ _ h => h) (hK9 _ _ _ _ _ ?_))
     clear hK9
     refine wp_seq' fun K10 hK10 => ?_
     refine wp_block' ?_
     refine wp_seq' fun K11 hK11 => ?_
     refine wp_reg ?_
     refine ol_r (r_move rfl) rfl ?_
     refine ol_r (r_assign rfl) rfl ?_
     refine ol_nil (to_k0 (fun _ _ h => h) (hK11 _ _ _ _ _ ?_))
     clear hK11
     refine wp_seq' fun K12 hK12 => ?_
     refine wp_regq (by kernel_rfl) (by kernel_rfl) ?_
     refine ql_r (r_move rfl) rfl ?_
     refine ql_r (r_move rfl) rfl ?_
     refine ql_ixr hx rfl rfl sl23 (by omega) rfl fun x18 hx18 => ?_
     try simp only [Int.toNat_natCast] at hx18
     refine ql_r (r_ldw rfl (fun w1 hb1 hs1 hB1 => Rd.loads hx ty66 hx18 hb1)) rfl ?_
     refine ql_r (r_move rfl) rfl ?_
     refine ql_r (r_move rfl) rfl ?_
     refine ql_ixr hy rfl rfl sl23 (by omega) rfl fun x22 hx22 => ?_
     try simp only [Int.toNat_natCast] at hx22
     have h22 : x22 = x18 := by rw [hx18] at hx22; cases hx22; rfl
     subst h22
     refine ql_r (r_ldw rfl (fun w1 hb1 hs1 hB1 => Rd.loads hy ty66 hx22 hb1)) rfl ?_
     refine ql_r (r_nes rfl rfl (by kernel_rfl) (fun w => run_eqs (by kernel_rfl) (by kernel_rfl) w)) rfl ?_
     refine ql_nil (to_k0 (fun _ _ h => h) (hK12 _ _ _ _ _ ?_))
     clear hK12
     refine wp_condNB rfl (fun hc24 => ?_) (fun hc24 => ?_)
     ·refine wp_seq' fun K13 hK13 => ?_
      refine wp_reg ?_
      refine ol_r (r_assign rfl) rfl ?_
      refine ol_nil (to_k0 (fun _ _ h => h) (hK13 _ _ _ _ _ ?_))
      clear hK13
      refine hQ.ret (rvs1 (rv_t rfl)) (fun _ _ h => h) fun w hb hs hB hkd => ?_
      first
        | (exfalso; simp only [eqs, eqV, encLap, ba_beq, decide_true, Bool.and_self, Bool.not_true] at hc24; cases hc24; done)
     ·refine wp_skip' (to_k0 (fun _ _ h => h) (hK10 _ _ _ _ _ ?_))
      clear hK10
      refine wp_reg ?_
      refine ol_r (r_add rfl rfl (by omega)) rfl ?_
      refine ol_r (r_move rfl) rfl ?_
      refine ol_nil (to_k0 (fun _ _ h => h) (hK7 (k + 1) _ _ ?_ ?_ (sub_cons rfl sub_nil) (sub_cons rfl (sub_cons rfl (sub_cons rfl sub_nil))) (by exact subH_nil) subH_nil))
      ·try dsimp only
       omega
      ·try dsimp only
       omega
    ·refine wp_exit' (to_k0 (fun _ _ h => h) (hK5 _ _ _ _ _ ?_))
     clear hK5
     refine wp_seq' fun K14 hK14 => ?_
     refine wp_reg ?_
     refine ol_r (r_assign rfl) rfl ?_
     refine ol_nil (to_k0 (fun _ _ h => h) (hK14 _ _ _ _ _ ?_))
     clear hK14
     refine hQ.ret (rvs1 (rv_t rfl)) (fun _ _ h => h) fun w hb hs hB hkd => ?_
     first
       | exact ⟨rfl, hb⟩
theorem clone_str (a : Option Addr) (n c1 : Nat) (xs : List ByteArray) (w : World) (hx : Rd encStr w.heap.size w a n c1 xs) (hn : n ≤ 1000000) :
    Calls Try.prog 104 #[.slice a n c1] w fun e w' => ∃ b m k, e = .returned (.slice b m k) ∧ Fresh encStr 9 w w' b m k xs := by
  have hl := hx.len
  refine enterQ (N := 8) (C := fun _ => True) (H := []) (B := w.heap.size) (args := [_]) Try.func104 rfl rfl rfl (Nat.le_refl _) (Sat.nil _ _) fun Q hQ => ?_
  refine wp_seq' fun K1 hK1 => ?_
  refine wp_reg ?_
  refine ol_r (r_assign rfl) rfl ?_
  refine ol_nil (to_k0 (fun _ _ h => h) (hK1 _ _ _ _ _ ?_))
  clear hK1
  refine wp_seq' fun K2 hK2 => ?_
  refine wp_seq' fun K3 hK3 => ?_
  refine wp_reg ?_
  refine ol_r (r_move rfl) rfl ?_
  refine ol_r (r_snil rfl rfl sl24) rfl ?_
  refine ol_nil (to_k0 (fun _ _ h => h) (hK3 _ _ _ _ _ ?_))
  clear hK3
  refine wp_cond' rfl (fun hc4 => ?_) (fun hc4 => ?_)
  ·refine wp_seq' fun K4 hK4 => ?_
   refine wp_reg ?_
   refine ol_r (r_assign rfl) rfl ?_
   refine ol_nil (to_k0 (fun _ _ h => h) (hK4 _ _ _ _ _ ?_))
   clear hK4
   refine hQ.ret (rvs1 (rv_t rfl)) (fun _ _ h => h) fun w hb hs hB hkd => ?_
   have h0 : n = 0 := by
     cases n with
     | zero => rfl
     | succ m => have := hx.isSome (by omega); cases a <;> simp at this hc4
   have : xs = [] := List.eq_nil_of_length_eq_zero (by omega)
   subst this
   exact ⟨none, 0, 0, rfl, Fresh.nil hb⟩
  ·refine wp_skip' (to_k0 (fun _ _ h => h) (hK2 _ _ _ _ _ ?_))
   clear hK2
   refine wp_seq' fun K5 hK5 => ?_
   refine wp_reg ?_
   refine ol_bs0 5 rw24 rfl fun b5 => ?_
   refine ol_r (r_move rfl) rfl ?_
   refine ol_append (id := 5) (news := encStr.enc xs) rfl rfl rfl rw24 (by rw [Enc.enc_len, hl]; rfl) (encStr.ones_enc xs) (fun w1 hb1 hs1 hB1 => ?_) (by omega) rfl fun a7 c7 => ?_
   · obtain ⟨p, hp⟩ : ∃ p, a = some p := by cases a with | none => simp at hc4 | some p => exact ⟨p, rfl⟩
     exact ⟨p, hp, (hx.below hb1).flat hp⟩
   refine ol_r (r_assign rfl) rfl ?_
   refine ol_nil (to_k0 (fun _ _ h => h) (hK5 _ _ _ _ _ ?_))
   clear hK5
   refine hQ.ret (rvs1 (rv_t rfl)) (fun _ _ h => h) fun w hb hs hB hkd => ?_
   refine ⟨a7, 0 + n, c7, rfl, hb, ?_⟩
   have := hs.ok 5 _ rfl
   exact this
theorem equal_str_same (a b : Option Addr) (n c1 c2 : Nat) (xs : List ByteArray) (w : World) (hx : Rd encStr w.heap.size w a n c1 xs) (hy : Rd encStr w.heap.size w b n c2 xs) :
    Calls Try.prog 52 #[.slice a n c1, .slice b n c2] w fun e w' => e = .returned (.bool true) ∧ Below w.heap.size w w' := by
  have hn := hx.len
  have hf := hx.fit
  refine enterQ (N := 26) (C := fun _ => True) (H := []) (B := w.heap.size) (args := [_, _]) Try.func52 rfl rfl rfl (Nat.le_refl _) (Sat.nil _ _) fun Q hQ => ?_
  refine wp_seq' fun K1 hK1 => ?_
  refine wp_reg ?_
  refine ol_r (r_assign rfl) rfl ?_
  refine ol_nil (to_k0 (fun _ _ h => h) (hK1 _ _ _ _ _ ?_))
  clear hK1
  refine wp_seq' fun K2 hK2 => ?_
  refine wp_seq' fun K3 hK3 => ?_
  refine wp_reg ?_
  refine ol_r (r_move rfl) rfl ?_
  refine ol_r (r_len rfl sl24) rfl ?_
  refine ol_r (r_move rfl) rfl ?_
  refine ol_r (r_len rfl sl24) rfl ?_
  refine ol_r (r_neq rfl rfl) rfl ?_
  refine ol_nil (to_k0 (fun _ _ h => h) (hK3 _ _ _ _ _ ?_))
  clear hK3
  refine wp_condD rfl (fun hc10 => ?_) (fun hc10 => ?_)
  ·refine wp_seq' fun K4 hK4 => ?_
   refine wp_reg ?_
   refine ol_r (r_assign rfl) rfl ?_
   refine ol_nil (to_k0 (fun _ _ h => h) (hK4 _ _ _ _ _ ?_))
   clear hK4
   refine hQ.ret (rvs1 (rv_t rfl)) (fun _ _ h => h) fun w hb hs hB hkd => ?_
   first
     | (exfalso; omega)
  ·refine wp_skip' (to_k0 (fun _ _ h => h) (hK2 _ _ _ _ _ ?_))
   clear hK2
   refine wp_seq' fun K5 hK5 => ?_
   refine wp_seq' fun K6 hK6 => ?_
   refine wp_reg ?_
   refine ol_r (r_move rfl) rfl ?_
   refine ol_r (r_len rfl sl24) rfl ?_
   refine ol_r (r_move rfl) rfl ?_
   refine ol_nil (to_k0 (fun _ _ h => h) (hK6 _ _ _ _ _ ?_))
   clear hK6
   refine wp_block' ?_
   apply wp_loopM (σ := Nat) (fun s => s ≤ n) (fun s => [(13, .int .i64 s)]) [(0, _), (1, _), (12, _)] (fun s => []) [] (fun s => n - s) (0)
   ·try dsimp only
    simp
   ·exact (sub_cons rfl sub_nil)
   ·exact (sub_cons rfl (sub_cons rfl (sub_cons rfl sub_nil)))
   ·exact subH_nil
   ·exact subH_nil
   ·intro k hk
    intro K7 hK7
    refine wp_seq' fun K8 hK8 => ?_
    refine wp_reg ?_
    refine ol_r (r_lss rfl rfl) rfl ?_
    refine ol_nil (to_k0 (fun _ _ h => h) (hK8 _ _ _ _ _ ?_))
    clear hK8
    refine wp_seq' fun K9 hK9 => ?_
    refine wp_condD rfl (fun hc14 => ?_) (fun hc14 => ?_)
    ·refine wp_skip' (to_k0 (fun _ _ h => h) (hK9 _ _ _ _ _ ?_))
     clear hK9
     refine wp_seq' fun K10 hK10 => ?_
     refine wp_block' ?_
     refine wp_seq' fun K11 hK11 => ?_
     refine wp_reg ?_
     refine ol_r (r_move rfl) rfl ?_
     refine ol_r (r_assign rfl) rfl ?_
     refine ol_nil (to_k0 (fun _ _ h => h) (hK11 _ _ _ _ _ ?_))
     clear hK11
     refine wp_seq' fun K12 hK12 => ?_
     refine wp_regq (by kernel_rfl) (by kernel_rfl) ?_
     refine ql_r (r_move rfl) rfl ?_
     refine ql_r (r_move rfl) rfl ?_
     refine ql_ixr hx rfl rfl sl24 (by omega) rfl fun x18 hx18 => ?_
     try simp only [Int.toNat_natCast] at hx18
     refine ql_r (r_ldw rfl (fun w1 hb1 hs1 hB1 => Rd.loads hx ty9 hx18 hb1)) rfl ?_
     refine ql_r (r_move rfl) rfl ?_
     refine ql_r (r_move rfl) rfl ?_
     refine ql_ixr hy rfl rfl sl24 (by omega) rfl fun x22 hx22 => ?_
     try simp only [Int.toNat_natCast] at hx22
     have h22 : x22 = x18 := by rw [hx18] at hx22; cases hx22; rfl
     subst h22
     refine ql_r (r_ldw rfl (fun w1 hb1 hs1 hB1 => Rd.loads hy ty9 hx22 hb1)) rfl ?_
     refine ql_r (r_sneq rfl rfl) rfl ?_
     refine ql_nil (to_k0 (fun _ _ h => h) (hK12 _ _ _ _ _ ?_))
     clear hK12
     refine wp_condNB rfl (fun hc24 => ?_) (fun hc24 => ?_)
     ·refine wp_seq' fun K13 hK13 => ?_
      refine wp_reg ?_
      refine ol_r (r_assign rfl) rfl ?_
      refine ol_nil (to_k0 (fun _ _ h => h) (hK13 _ _ _ _ _ ?_))
      clear hK13
      refine hQ.ret (rvs1 (rv_t rfl)) (fun _ _ h => h) fun w hb hs hB hkd => ?_
      first
        | (exfalso; rw [sEq_refl] at hc24; cases hc24; done)
     ·refine wp_skip' (to_k0 (fun _ _ h => h) (hK10 _ _ _ _ _ ?_))
      clear hK10
      refine wp_reg ?_
      refine ol_r (r_add rfl rfl (by omega)) rfl ?_
      refine ol_r (r_move rfl) rfl ?_
      refine ol_nil (to_k0 (fun _ _ h => h) (hK7 (k + 1) _ _ ?_ ?_ (sub_cons rfl sub_nil) (sub_cons rfl (sub_cons rfl (sub_cons rfl sub_nil))) (by exact subH_nil) subH_nil))
      ·try dsimp only
       omega
      ·try dsimp only
       omega
    ·refine wp_exit' (to_k0 (fun _ _ h => h) (hK5 _ _ _ _ _ ?_))
     clear hK5
     refine wp_seq' fun K14 hK14 => ?_
     refine wp_reg ?_
     refine ol_r (r_assign rfl) rfl ?_
     refine ol_nil (to_k0 (fun _ _ h => h) (hK14 _ _ _ _ _ ?_))
     clear hK14
     refine hQ.ret (rvs1 (rv_t rfl)) (fun _ _ h => h) fun w hb hs hB hkd => ?_
     first
       | exact ⟨rfl, hb⟩
end Go.Proofs.Ytogcclagmobkiaa
