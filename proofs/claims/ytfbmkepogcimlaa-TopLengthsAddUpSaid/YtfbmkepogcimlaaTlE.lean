/-
  slices.Clone and slices.Equal of samples, laps and strings.
-/
import Derived.Sort.Grow
import Derived.Shelf.Sort.Plain
import Derived.Lib.AppendZeros
import Derived.Shelf.Slices.CompactS
import Derived.Shelf.Slices.In.SortNone
import Derived.Test.YtfbmkepogcimlaaTlA
import Derived.Test.YtfbmkepogcimlaaTlB
import Derived.Test.YtfbmkepogcimlaaTlC
import Derived.Test.YtfbmkepogcimlaaTlD



namespace Go.Proofs.Ytfbmkepogcimlaa
open Go Go.RowKit Hx
set_option linter.unusedVariables false
set_option linter.unusedSimpArgs false
set_option maxRecDepth 8000
theorem ba_beq (a : ByteArray) : (a == a) = true := by
  first
    | exact beq_self_eq_true a
    | (show (a.data == a.data) = true; exact beq_self_eq_true _)
theorem sEq_refl (a : ByteArray) : sEq a a = true := by unfold sEq; exact beq_self_eq_true _
theorem clone_smp (a : Option Addr) (n c1 : Nat) (xs : List SmpR) (w : World) (hx : Rd encSmp w.heap.size w a n c1 xs) (hn : n ≤ 1000000) :
    Calls Try.prog 40 #[.slice a n c1] w fun e w' => ∃ b m k, e = .returned (.slice b m k) ∧ Fresh encSmp 70 w w' b m k xs := by
  have hl := hx.len
  refine enterQ (N := 8) (C := fun _ => True) (H := []) (B := w.heap.size) (args := [_]) Try.func40 rfl rfl rfl (Nat.le_refl _) (Sat.nil _ _) fun Q hQ => ?_
  refine wp_seq' fun K1 hK1 => ?_
  refine wp_reg ?_
  refine ol_r (r_assign rfl) rfl ?_
  refine ol_nil (to_k0 (fun _ _ h => h) (hK1 _ _ _ _ _ ?_))
  clear hK1
  refine wp_seq' fun K2 hK2 => ?_
  refine wp_seq' fun K3 hK3 => ?_
  refine wp_reg ?_
  refine ol_r (r_move rfl) rfl ?_
  refine ol_r (r_snil rfl rfl sl53) rfl ?_
  refine ol_nil (to_k0 (fun _ _ h => h) (hK3 _ _ _ _ _ ?_))
  clear hK3
  refine wp_cond' rfl (fun hc4 => ?_) (fun hc4 => ?_)
  ·refine wp_seq' fun K4 hK4 => ?_
   refine wp_reg ?_
   refine ol_r (r_assign rfl) rfl ?_
   refine ol_nil (to_k0 (fun _ _ h => h) (hK4 _ _ _ _ _ ?_))
   clear hK4
   refine hQ.ret (rvs1 (rv_t rfl)) (fun _ _ h => h) fun w hb hs hB hkd => ?_
   have h0 : n = 0 := by
     cases n with
     | zero => rfl
     | succ m => have := hx.isSome (by omega); cases a <;> simp at this hc4
   have : xs = [] := List.eq_nil_of_length_eq_zero (by omega)
   subst this
   exact ⟨none, 0, 0, rfl, Fresh.nil hb⟩
  ·refine wp_skip' (to_k0 (fun _ _ h => h) (hK2 _ _ _ _ _ ?_))
   clear hK2
   refine wp_seq' fun K5 hK5 => ?_
   refine wp_reg ?_
   refine ol_bs0 5 rw53 rfl fun b5 => ?_
   refine ol_r (r_move rfl) rfl ?_
   refine ol_append (id := 5) (news := encSmp.enc xs) rfl rfl rfl rw53 (by rw [Enc.enc_len, hl]; rfl) (encSmp.ones_enc xs) (fun w1 hb1 hs1 hB1 => ?_) (by omega) rfl fun a7 c7 => ?_
   · obtain ⟨p, hp⟩ : ∃ p, a = some p := by cases a with | none => simp at hc4 | some p => exact ⟨p, rfl⟩
     exact ⟨p, hp, (hx.below hb1).flat hp⟩
   refine ol_r (r_assign rfl) rfl ?_
   refine ol_nil (to_k0 (fun _ _ h => h) (hK5 _ _ _ _ _ ?_))
   clear hK5
   refine hQ.ret (rvs1 (rv_t rfl)) (fun _ _ h => h) fun w hb hs hB hkd => ?_
   refine ⟨a7, 0 + n, c7, rfl, hb, ?_⟩
   have := hs.ok 5 _ rfl
   exact this
theorem equal_smp_same (a b : Option Addr) (n c1 c2 : Nat) (xs : List SmpR) (w : World) (hx : Rd encSmp w.heap.size w a n c1 xs) (hy : Rd encSmp w.heap.size w b n c2 xs) :
    Calls Try.prog 25 #[.slice a n c1, .slice b n c2] w fun e w' => e = .returned (.bool true) ∧ Below w.heap.size w w' := by
  have hn := hx.len
  have hf := hx.fit
  refine enterQ (N := 26) (C := fun _ => True) (H := []) (B := w.heap.size) (args := [_, _]) Try.func25 rfl rfl rfl (Nat.le_refl _) (Sat.nil _ _) fun Q hQ => ?_
  refine wp_seq' fun K1 hK1 => ?_
  refine wp_reg ?_
  refine ol_r (r_assign rfl) rfl ?_
  refine ol_nil (to_k0 (fun _ _ h => h) (hK1 _ _ _ _ _ ?_))
  clear hK1
  refine wp_seq' fun K2 hK2 => ?_
  refine wp_seq' fun K3 hK3 => ?_
  refine wp_reg ?_
  refine ol_r (r_move rfl) rfl ?_
  refine ol_r (r_len rfl sl53) rfl ?_
  refine ol_r (r_move rfl) rfl ?_
  refine ol_r (r_len rfl sl53) rfl ?_
  refine ol_r (r_neq rfl rfl) rfl ?_
  refine ol_nil (to_k0 (fun _ _ h => h) (hK3 _ _ _ _ _ ?_))
  clear hK3
  refine wp_condD rfl (fun hc10 => ?_) (fun hc10 => ?_)
  ·refine wp_seq' fun K4 hK4 => ?_
   refine wp_reg ?_
   refine ol_r (r_assign rfl) rfl ?_
   refine ol_nil (to_k0 (fun _ _ h => h) (hK4 _ _ _ _ _ ?_))
   clear hK4
   refine hQ.ret (rvs1 (rv_t rfl)) (fun _ _ h => h) fun w hb hs hB hkd => ?_
   first
     | (exfalso; omega)
  ·refine wp_skip' (to_k0 (fun _ _ h => h) (hK2 _ _ _ _ _ ?_))
   clear hK2
   refine wp_seq' fun K5 hK5 => ?_
   refine wp_seq' fun K6 hK6 => ?_
   refine wp_reg ?_
   refine ol_r (r_move rfl) rfl ?_
   refine ol_r (r_len rfl sl53) rfl ?_
   refine ol_r (r_move rfl) rfl ?_
   refine ol_nil (to_k0 (fun _ _ h => h) (hK6 _ _ _ _ _ ?_))
   clear hK6
   refine wp_block' ?_
   apply wp_loopM (σ := Nat) (fun s => s ≤ n) (fun s => [(13, .int .i64 s)]) [(0, _), (1, _), (12, _)] (fun s => []) [] (fun s => n - s) (0)
   ·try dsimp only
    simp
   ·exact (sub_cons rfl sub_nil)
   ·exact (sub_cons rfl (sub_cons rfl (sub_cons rfl sub_nil)))
   ·exact subH_nil
   ·exact subH_nil
   ·intro k hk
    intro K7 hK7
    refine wp_seq' fun K8 hK8 => ?_
    refine wp_reg ?_
    refine ol_r (r_lss rfl rfl) rfl ?_
    refine ol_nil (to_k0 (fun _ _ h => h) (hK8 _ _ _ _ _ ?_))
    clear hK8
    refine wp_seq' fun K9 hK9 => ?_
    refine wp_condD rfl (fun hc14 => ?_) (fun hc14 => ?_)
    ·refine wp_skip' (to_k0 (fun _ _ h => h) (hK9 _ _ _ _ _ ?_))
     clear hK9
     refine wp_seq' fun K10 hK10 => ?_
     refine wp_block' ?_
     refine wp_seq' fun K11 hK11 => ?_
     refine wp_reg ?_
     refine ol_r (r_move rfl) rfl ?_
     refine ol_r (r_assign rfl) rfl ?_
     refine ol_nil (to_k0 (fun _ _ h => h) (hK11 _ _ _ _ _ ?_))
     clear hK11
     refine wp_seq' fun K12 hK12 => ?_
     refine wp_regq (by kernel_rfl) (by kernel_rfl) ?_
     refine ql_r (r_move rfl) rfl ?_
     refine ql_r (r_move rfl) rfl ?_
     refine ql_ixr hx rfl rfl sl53 (by omega) rfl fun x18 hx18 => ?_
     try simp only [Int.toNat_natCast] at hx18
     refine ql_r (r_ldw rfl (fun w1 hb1 hs1 hB1 => Rd.loads hx ty70 hx18 hb1)) rfl ?_
     refine ql_r (r_move rfl) rfl ?_
     refine ql_r (r_move rfl) rfl ?_
     refine ql_ixr hy rfl rfl sl53 (by omega) rfl fun x22 hx22 => ?_
     try simp only [Int.toNat_natCast] at hx22
     have h22 : x22 = x18 := by rw [hx18] at hx22; cases hx22; rfl
     subst h22
     refine ql_r (r_ldw rfl (fun w1 hb1 hs1 hB1 => Rd.loads hy ty70 hx22 hb1)) rfl ?_
     refine ql_r (r_nes rfl rfl (by kernel_rfl) (fun w => run_eqs (by kernel_rfl) (by kernel_rfl) w)) rfl ?_
     refine ql_nil (to_k0 (fun _ _ h => h) (hK12 _ _ _ _ _ ?_))
     clear hK12
     refine wp_condNB rfl (fun hc24 => ?_) (fun hc24 => ?_)
     ·refine wp_seq' fun K13 hK13 => ?_
      refine wp_reg ?_
      refine ol_r (r_assign rfl) rfl ?_
      refine ol_nil (to_k0 (fun _ _ h => h) (hK13 _ _ _ _ _ ?_))
      clear hK13
      refine hQ.ret (rvs1 (rv_t rfl)) (fun _ _ h => h) fun w hb hs hB hkd => ?_
      first
        | (exfalso; simp [eqs, eqV, encSmp] at hc24; done)
     ·refine wp_skip' (to_k0 (fun _ _ h => h) (hK10 _ _ _ _ _ ?_))
      clear hK10
      refine wp_reg ?_
      refine ol_r (r_add rfl rfl (by omega)) rfl ?_
      refine ol_r (r_move rfl) rfl ?_
      refine ol_nil (to_k0 (fun _ _ h => h) (hK7 (k + 1) _ _ ?_ ?_ (sub_cons rfl sub_nil) (sub_cons rfl (sub_cons rfl (sub_cons rfl sub_nil))) (by exact subH_nil) subH_nil))
      ·try dsimp only
       omega
      ·try dsimp only
       omega
    ·refine wp_exit' (to_k0 (fun _ _ h => h) (hK5 _ _ _ _ _ ?_))
     clear hK5
     refine wp_seq' fun K14 hK14 => ?_
     refine wp_reg ?_
     refine ol_r (r_assign rfl) rfl ?_
     refine ol_nil (to_k0 (fun _ _ h => h) (hK14 _ _ _ _ _ ?_))
     clear hK14
     refine hQ.ret (rvs1 (rv_t rfl)) (fun _ _ h => h) fun w hb hs hB hkd => ?_
     first
       | exact ⟨rfl, hb⟩
theorem clone_lap (a : Option Addr) (n c1 : Nat) (xs : List LapR) (w : World) (hx : Rd encLap w.heap.size w a n c1 xs) (hn : n ≤ 1000000) :
    Calls Try.prog 80 #[.slice a n c1] w fun e w' => ∃ b m k, e = .returned (.slice b m k) ∧ Fresh encLap 110 w w' b m k xs := by
  have hl := hx.len
  refine enterQ (N := 8) (C := fun _ => True) (H := []) (B := w.heap.size) (args := [_]) Try.func80 rfl rfl rfl (Nat.le_refl _) (Sat.nil _ _) fun Q hQ => ?_
  refine wp_seq' fun K1 hK1 => ?_
  refine wp_reg ?_
  refine ol_r (r_assign rfl) rfl ?_
  refine ol_nil (to_k0 (fun _ _ h => h) (hK1 _ _ _ _ _ ?_))
  clear hK1
  refine wp_seq' fun K2 hK2 => ?_
  refine wp_seq' fun K3 hK3 => ?_
  refine wp_reg ?_
  refine ol_r (r_move rfl) rfl ?_
  refine ol_r (r_snil rfl rfl sl54) rfl ?_
  refine ol_nil (to_k0 (fun _ _ h => h) (hK3 _ _ _ _ _ ?_))
  clear hK3
  refine wp_cond' rfl (fun hc4 => ?_) (fun hc4 => ?_)
  ·refine wp_seq' fun K4 hK4 => ?_
   refine wp_reg ?_
   refine ol_r (r_assign rfl) rfl ?_
   refine ol_nil (to_k0 (fun _ _ h => h) (hK4 _ _ _ _ _ ?_))
   clear hK4
   refine hQ.ret (rvs1 (rv_t rfl)) (fun _ _ h => h) fun w hb hs hB hkd => ?_
   have h0 : n = 0 := by
     cases n with
     | zero => rfl
     | succ m => have := hx.isSome (by omega); cases a <;> simp at this hc4
   have : xs = [] := List.eq_nil_of_length_eq_zero (by omega)
   subst this
   exact ⟨none, 0, 0, rfl, Fresh.nil hb⟩
  ·refine wp_skip' (to_k0 (fun _ _ h => h) (hK2 _ _ _ _ _ ?_))
   clear hK2
   refine wp_seq' fun K5 hK5 => ?_
   refine wp_reg ?_
   refine ol_bs0 5 rw54 rfl fun b5 => ?_
   refine ol_r (r_move rfl) rfl ?_
   refine ol_append (id := 5) (news := encLap.enc xs) rfl rfl rfl rw54 (by rw [Enc.enc_len, hl]; rfl) (encLap.ones_enc xs) (fun w1 hb1 hs1 hB1 => ?_) (by omega) rfl fun a7 c7 => ?_
   · obtain ⟨p, hp⟩ : ∃ p, a = some p := by cases a with | none => simp at hc4 | some p => exact ⟨p, rfl⟩
     exact ⟨p, hp, (hx.below hb1).flat hp⟩
   refine ol_r (r_assign rfl) rfl ?_
   refine ol_nil (to_k0 (fun _ _ h => h) (hK5 _ _ _ _ _ ?_))
   clear hK5
   refine hQ.ret (rvs1 (rv_t rfl)) (fun _ _ h => h) fun w hb hs hB hkd => ?_
   refine ⟨a7, 0 + n, c7, rfl, hb, ?_⟩
   have := hs.ok 5 _ rfl
   exact this
theorem clone_str (a : Option Addr) (n c1 : Nat) (xs : List ByteArray) (w : World) (hx : Rd encStr w.heap.size w a n c1 xs) (hn : n ≤ 1000000) :
    Calls Try.prog 81 #[.slice a n c1] w fun e w' => ∃ b m k, e = .returned (.slice b m k) ∧ Fresh encStr 9 w w' b m k xs := by
  have hl := hx.len
  refine enterQ (N := 8) (C := fun _ => True) (H := []) (B := w.heap.size) (args := [_]) Try.func81 rfl rfl rfl (Nat.le_refl _) (Sat.nil _ _) fun Q hQ => ?_
  refine wp_seq' fun K1 hK1 => ?_
  refine wp_reg ?_
  refine ol_r (r_assign rfl) rfl ?_
  refine ol_nil (to_k0 (fun _ _ h => h) (hK1 _ _ _ _ _ ?_))
  clear hK1
  refine wp_seq' fun K2 hK2 => ?_
  refine wp_seq' fun K3 hK3 => ?_
  refine wp_reg ?_
  refine ol_r (r_move rfl) rfl ?_
  refine ol_r (r_snil rfl rfl sl55) rfl ?_
  refine ol_nil (to_k0 (fun _ _ h => h) (hK3 _ _ _ _ _ ?_))
  clear hK3
  refine wp_cond' rfl (fun hc4 => ?_) (fun hc4 => ?_)
  ·refine wp_seq' fun K4 hK4 => ?_
   refine wp_reg ?_
   refine ol_r (r_assign rfl) rfl ?_
   refine ol_nil (to_k0 (fun _ _ h => h) (hK4 _ _ _ _ _ ?_))
   clear hK4
   refine hQ.ret (rvs1 (rv_t rfl)) (fun _ _ h => h) fun w hb hs hB hkd => ?_
   have h0 : n = 0 := by
     cases n with
     | zero => rfl
     | succ m => have := hx.isSome (by omega); cases a <;> simp at this hc4
   have : xs = [] := List.eq_nil_of_length_eq_zero (by omega)
   subst this
   exact ⟨none, 0, 0, rfl, Fresh.nil hb⟩
  ·refine wp_skip' (to_k0 (fun _ _ h => h) (hK2 _ _ _ _ _ ?_))
   clear hK2
   refine wp_seq' fun K5 hK5 => ?_
   refine wp_reg ?_
   refine ol_bs0 5 rw55 rfl fun b5 => ?_
   refine ol_r (r_move rfl) rfl ?_
   refine ol_append (id := 5) (news := encStr.enc xs) rfl rfl rfl rw55 (by rw [Enc.enc_len, hl]; rfl) (encStr.ones_enc xs) (fun w1 hb1 hs1 hB1 => ?_) (by omega) rfl fun a7 c7 => ?_
   · obtain ⟨p, hp⟩ : ∃ p, a = some p := by cases a with | none => simp at hc4 | some p => exact ⟨p, rfl⟩
     exact ⟨p, hp, (hx.below hb1).flat hp⟩
   refine ol_r (r_assign rfl) rfl ?_
   refine ol_nil (to_k0 (fun _ _ h => h) (hK5 _ _ _ _ _ ?_))
   clear hK5
   refine hQ.ret (rvs1 (rv_t rfl)) (fun _ _ h => h) fun w hb hs hB hkd => ?_
   refine ⟨a7, 0 + n, c7, rfl, hb, ?_⟩
   have := hs.ok 5 _ rfl
   exact this
theorem equal_str_same (a b : Option Addr) (n c1 c2 : Nat) (xs : List ByteArray) (w : World) (hx : Rd encStr w.heap.size w a n c1 xs) (hy : Rd encStr w.heap.size w b n c2 xs) :
    Calls Try.prog 26 #[.slice a n c1, .slice b n c2] w fun e w' => e = .returned (.bool true) ∧ Below w.heap.size w w' := by
  have hn := hx.len
  have hf := hx.fit
  refine enterQ (N := 26) (C := fun _ => True) (H := []) (B := w.heap.size) (args := [_, _]) Try.func26 rfl rfl rfl (Nat.le_refl _) (Sat.nil _ _) fun Q hQ => ?_
  refine wp_seq' fun K1 hK1 => ?_
  refine wp_reg ?_
  refine ol_r (r_assign rfl) rfl ?_
  refine ol_nil (to_k0 (fun _ _ h => h) (hK1 _ _ _ _ _ ?_))
  clear hK1
  refine wp_seq' fun K2 hK2 => ?_
  refine wp_seq' fun K3 hK3 => ?_
  refine wp_reg ?_
  refine ol_r (r_move rfl) rfl ?_
  refine ol_r (r_len rfl sl55) rfl ?_
  refine ol_r (r_move rfl) rfl ?_
  refine ol_r (r_len rfl sl55) rfl ?_
  refine ol_r (r_neq rfl rfl) rfl ?_
  refine ol_nil (to_k0 (fun _ _ h => h) (hK3 _ _ _ _ _ ?_))
  clear hK3
  refine wp_condD rfl (fun hc10 => ?_) (fun hc10 => ?_)
  ·refine wp_seq' fun K4 hK4 => ?_
   refine wp_reg ?_
   refine ol_r (r_assign rfl) rfl ?_
   refine ol_nil (to_k0 (fun _ _ h => h) (hK4 _ _ _ _ _ ?_))
   clear hK4
   refine hQ.ret (rvs1 (rv_t rfl)) (fun _ _ h => h) fun w hb hs hB hkd => ?_
   first
     | (exfalso; omega)
  ·refine wp_skip' (to_k0 (fun _ _ h => h) (hK2 _ _ _ _ _ ?_))
   clear hK2
   refine wp_seq' fun K5 hK5 => ?_
   refine wp_seq' fun K6 hK6 => ?_
   refine wp_reg ?_
   refine ol_r (r_move rfl) rfl ?_
   refine ol_r (r_len rfl sl55) rfl ?_
   refine ol_r (r_move rfl) rfl ?_
   refine ol_nil (to_k0 (fun _ _ h => h) (hK6 _ _ _ _ _ ?_))
   clear hK6
   refine wp_block' ?_
   apply wp_loopM (σ := Nat) (fun s => s ≤ n) (fun s => [(13, .int .i64 s)]) [(0, _), (1, _), (12, _)] (fun s => []) [] (fun s => n - s) (0)
   ·try dsimp only
    simp
   ·exact (sub_cons rfl sub_nil)
   ·exact (sub_cons rfl (sub_cons rfl (sub_cons rfl sub_nil)))
   ·exact subH_nil
   ·exact subH_nil
   ·intro k hk
    intro K7 hK7
    refine wp_seq' fun K8 hK8 => ?_
    refine wp_reg ?_
    refine ol_r (r_lss rfl rfl) rfl ?_
    refine ol_nil (to_k0 (fun _ _ h => h) (hK8 _ _ _ _ _ ?_))
    clear hK8
    refine wp_seq' fun K9 hK9 => ?_
    refine wp_condD rfl (fun hc14 => ?_) (fun hc14 => ?_)
    ·refine wp_skip' (to_k0 (fun _ _ h => h) (hK9 _ _ _ _ _ ?_))
     clear hK9
     refine wp_seq' fun K10 hK10 => ?_
     refine wp_block' ?_
     refine wp_seq' fun K11 hK11 => ?_
     refine wp_reg ?_
     refine ol_r (r_move rfl) rfl ?_
     refine ol_r (r_assign rfl) rfl ?_
     refine ol_nil (to_k0 (fun _ _ h => h) (hK11 _ _ _ _ _ ?_))
     clear hK11
     refine wp_seq' fun K12 hK12 => ?_
     refine wp_regq (by kernel_rfl) (by kernel_rfl) ?_
     refine ql_r (r_move rfl) rfl ?_
     refine ql_r (r_move rfl) rfl ?_
     refine ql_ixr hx rfl rfl sl55 (by omega) rfl fun x18 hx18 => ?_
     try simp only [Int.toNat_natCast] at hx18
     refine ql_r (r_ldw rfl (fun w1 hb1 hs1 hB1 => Rd.loads hx ty9 hx18 hb1)) rfl ?_
     refine ql_r (r_move rfl) rfl ?_
     refine ql_r (r_move rfl) rfl ?_
     refine ql_ixr hy rfl rfl sl55 (by omega) rfl fun x22 hx22 => ?_
     try simp only [Int.toNat_natCast] at hx22
     have h22 : x22 = x18 := by rw [hx18] at hx22; cases hx22; rfl
     subst h22
     refine ql_r (r_ldw rfl (fun w1 hb1 hs1 hB1 => Rd.loads hy ty9 hx22 hb1)) rfl ?_
     refine ql_r (r_sneq rfl rfl) rfl ?_
     refine ql_nil (to_k0 (fun _ _ h => h) (hK12 _ _ _ _ _ ?_))
     clear hK12
     refine wp_condNB rfl (fun hc24 => ?_) (fun hc24 => ?_)
     ·refine wp_seq' fun K13 hK13 => ?_
      refine wp_reg ?_
      refine ol_r (r_assign rfl) rfl ?_
      refine ol_nil (to_k0 (fun _ _ h => h) (hK13 _ _ _ _ _ ?_))
      clear hK13
      refine hQ.ret (rvs1 (rv_t rfl)) (fun _ _ h => h) fun w hb hs hB hkd => ?_
      first
        | (exfalso; rw [sEq_refl] at hc24; cases hc24; done)
     ·refine wp_skip' (to_k0 (fun _ _ h => h) (hK10 _ _ _ _ _ ?_))
      clear hK10
      refine wp_reg ?_
      refine ol_r (r_add rfl rfl (by omega)) rfl ?_
      refine ol_r (r_move rfl) rfl ?_
      refine ol_nil (to_k0 (fun _ _ h => h) (hK7 (k + 1) _ _ ?_ ?_ (sub_cons rfl sub_nil) (sub_cons rfl (sub_cons rfl (sub_cons rfl sub_nil))) (by exact subH_nil) subH_nil))
      ·try dsimp only
       omega
      ·try dsimp only
       omega
    ·refine wp_exit' (to_k0 (fun _ _ h => h) (hK5 _ _ _ _ _ ?_))
     clear hK5
     refine wp_seq' fun K14 hK14 => ?_
     refine wp_reg ?_
     refine ol_r (r_assign rfl) rfl ?_
     refine ol_nil (to_k0 (fun _ _ h => h) (hK14 _ _ _ _ _ ?_))
     clear hK14
     refine hQ.ret (rvs1 (rv_t rfl)) (fun _ _ h => h) fun w hb hs hB hkd => ?_
     first
       | exact ⟨rfl, hb⟩
end Go.Proofs.Ytfbmkepogcimlaa

/-
  Activities with other samples: program and reference.
-/




namespace Go.Proofs.Ytfbmkepogcimlaa
open Go Go.RowKit Hx
set_option linter.unusedVariables false
set_option linter.unusedSimpArgs false
set_option maxRecDepth 8000
theorem record_Clone (A : ActV) (w : World) (hA : A.Ok w.heap.size w) (h1 : A.sn ≤ 1000000) (h2 : A.ln ≤ 1000000) (h3 : A.tn ≤ 1000000) :
    Calls Try.prog 54 #[.agg #[.string A.name, .int .i64 A.sport, .int .i64 A.start, .slice A.sa A.sn A.sc, .slice A.la A.ln A.lc, .slice A.ta A.tn A.tc]] w fun e w' => ∃ sa sn sc la ln lc ta tn tc, e = .returned (.agg #[.string A.name, .int .i64 A.sport, .int .i64 A.start, .slice sa sn sc, .slice la ln lc, .slice ta tn tc]) ∧ Below w.heap.size w w' ∧
      Sat w.heap.size w' [(1001, .row sa sn sc (encSmp.enc A.ss) 70 7), (1002, .row la ln lc (encLap.enc A.ls) 110 3), (1003, .row ta tn tc (encStr.enc A.ts) 9 1)] := by
  refine enterQ (N := 16) (C := fun _ => True) (H := []) (B := w.heap.size) (args := [_]) Try.func54 rfl rfl rfl (Nat.le_refl _) (Sat.nil _ _) fun Q hQ => ?_
  refine wp_seq' fun K1 hK1 => ?_
  refine wp_reg ?_
  refine ol_box 1 rfl rfl rfl fun b1 => ?_
  refine ol_alloc 2 z57 rfl fun b2 => ?_
  refine ol_nil (to_k0 (fun _ _ h => h) (hK1 _ _ _ _ _ ?_))
  clear hK1
  refine wp_seq' fun K2 hK2 => ?_
  refine wp_rega [(999, [(2, _)]), (10, [(1, _)])] (by kernel_rfl) ⟨.inr (subH_same rfl subH_nil), ⟨.inr (subH_same rfl subH_nil), trivial⟩⟩ ?_
  refine aq_r 0 999 rfl (by kernel_rfl) (by kernel_rfl) (by kernel_rfl) (.head _) (by kernel_rfl) (by kernel_rfl) rfl (r_fa (o' := 3) rfl fl57_3 rfl) ?_
  refine aq_r 1 10 rfl (by kernel_rfl) (by kernel_rfl) (by kernel_rfl) (.tail _ (.head _)) (by kernel_rfl) (by kernel_rfl) rfl (r_ld (id := 1) rfl rfl rfl sc53) ?_
  refine aq_r 3 999 rfl (by kernel_rfl) (by kernel_rfl) (by kernel_rfl) (.head _) (by kernel_rfl) (by kernel_rfl) rfl (r_fa (o' := 4) rfl fl57_4 rfl) ?_
  refine aq_r 4 10 rfl (by kernel_rfl) (by kernel_rfl) (by kernel_rfl) (.tail _ (.head _)) (by kernel_rfl) (by kernel_rfl) rfl (r_ld (id := 1) rfl rfl rfl sc54) ?_
  refine aq_r 6 999 rfl (by kernel_rfl) (by kernel_rfl) (by kernel_rfl) (.head _) (by kernel_rfl) (by kernel_rfl) rfl (r_fa (o' := 5) rfl fl57_5 rfl) ?_
  refine aq_r 7 10 rfl (by kernel_rfl) (by kernel_rfl) (by kernel_rfl) (.tail _ (.head _)) (by kernel_rfl) (by kernel_rfl) rfl (r_ld (id := 1) rfl rfl rfl sc55) ?_
  refine aq_one (i := 2) (by kernel_rfl) rfl fun K3 hK3 => ?_
  refine ol_call rfl rfl cb40 rfl (fun w1 hb1 hs1 hB1 => Calls.mono (clone_smp _ _ _ A.ss _ (hA.s.at hb1 hB1) h1) ?_)
  rintro e w2 ⟨a5, n5, c5, rfl, hf5⟩
  refine After.fresh (id := 5) rfl hb1 hs1 hB1 hf5 ?_
  have hl5 := hf5.len; clear hf5 hB1 hs1 hb1 w2 w1
  refine ol_nil (to_k0 (fun _ _ h => h) (hK3 _ _ ⟨.inr (by repeat' first | exact subH_nil | refine subH_same rfl ?_ | (refine subH_blk rfl (by repeat' first | exact sub_nil | refine sub_cons rfl ?_) ?_)), ⟨.inr (by repeat' first | exact subH_nil | refine subH_same rfl ?_ | (refine subH_blk rfl (by repeat' first | exact sub_nil | refine sub_cons rfl ?_) ?_)), trivial⟩⟩ ?_))
  clear hK3
  refine aq_r 9 999 rfl (by kernel_rfl) (by kernel_rfl) (by kernel_rfl) (.head _) (by kernel_rfl) (by kernel_rfl) rfl (r_fa (o' := 3) rfl fl57_3 rfl) ?_
  refine aq_one (i := 5) (by kernel_rfl) rfl fun K4 hK4 => ?_
  refine ol_call rfl rfl cb80 rfl (fun w1 hb1 hs1 hB1 => Calls.mono (clone_lap _ _ _ A.ls _ (hA.l.at hb1 hB1) h2) ?_)
  rintro e w2 ⟨a8, n8, c8, rfl, hf8⟩
  refine After.fresh (id := 8) rfl hb1 hs1 hB1 hf8 ?_
  have hl8 := hf8.len; clear hf8 hB1 hs1 hb1 w2 w1
  refine ol_nil (to_k0 (fun _ _ h => h) (hK4 _ _ ⟨.inr (by repeat' first | exact subH_nil | refine subH_same rfl ?_ | (refine subH_blk rfl (by repeat' first | exact sub_nil | refine sub_cons rfl ?_) ?_)), ⟨.inr (by repeat' first | exact subH_nil | refine subH_same rfl ?_ | (refine subH_blk rfl (by repeat' first | exact sub_nil | refine sub_cons rfl ?_) ?_)), trivial⟩⟩ ?_))
  clear hK4
  refine aq_one (i := 8) (by kernel_rfl) rfl fun K5 hK5 => ?_
  refine ol_call rfl rfl cb81 rfl (fun w1 hb1 hs1 hB1 => Calls.mono (clone_str _ _ _ A.ts _ (hA.t.at hb1 hB1) h3) ?_)
  rintro e w2 ⟨a11, n11, c11, rfl, hf11⟩
  refine After.fresh (id := 11) rfl hb1 hs1 hB1 hf11 ?_
  have hl11 := hf11.len; clear hf11 hB1 hs1 hb1 w2 w1
  refine ol_nil (to_k0 (fun _ _ h => h) (hK5 _ _ ⟨.inr (by repeat' first | exact subH_nil | refine subH_same rfl ?_ | (refine subH_blk rfl (by repeat' first | exact sub_nil | refine sub_cons rfl ?_) ?_)), ⟨.inr (by repeat' first | exact subH_nil | refine subH_same rfl ?_ | (refine subH_blk rfl (by repeat' first | exact sub_nil | refine sub_cons rfl ?_) ?_)), trivial⟩⟩ ?_))
  clear hK5
  refine aq_one (i := 10) (by kernel_rfl) rfl fun K6 hK6 => ?_
  refine ol_store (id := 1) rfl rfl rfl rfl sz53 rfl rfl (by first | decide | exact Nat.zero_lt_succ _ | simp) ?_
  refine ol_nil (to_k0 (fun _ _ h => h) (hK6 _ _ ⟨.inr (by repeat' first | exact subH_nil | refine subH_same rfl ?_ | (refine subH_blk rfl (by repeat' first | exact sub_nil | refine sub_cons rfl ?_) ?_)), ⟨.inl (by kernel_rfl), trivial⟩⟩ ?_))
  clear hK6
  refine aq_r 11 999 rfl (by kernel_rfl) (by kernel_rfl) (by kernel_rfl) (.head _) (by kernel_rfl) (by kernel_rfl) rfl (r_fa (o' := 4) rfl fl57_4 rfl) ?_
  refine aq_one (i := 12) (by kernel_rfl) rfl fun K7 hK7 => ?_
  refine ol_store (id := 1) rfl rfl rfl rfl sz54 rfl rfl (by first | decide | exact Nat.zero_lt_succ _ | simp) ?_
  refine ol_nil (to_k0 (fun _ _ h => h) (hK7 _ _ ⟨.inr (by repeat' first | exact subH_nil | refine subH_same rfl ?_ | (refine subH_blk rfl (by repeat' first | exact sub_nil | refine sub_cons rfl ?_) ?_)), ⟨.inl (by kernel_rfl), trivial⟩⟩ ?_))
  clear hK7
  refine aq_r 13 999 rfl (by kernel_rfl) (by kernel_rfl) (by kernel_rfl) (.head _) (by kernel_rfl) (by kernel_rfl) rfl (r_fa (o' := 5) rfl fl57_5 rfl) ?_
  refine aq_one (i := 14) (by kernel_rfl) rfl fun K8 hK8 => ?_
  refine ol_store (id := 1) rfl rfl rfl rfl sz55 rfl rfl (by first | decide | exact Nat.zero_lt_succ _ | simp) ?_
  refine ol_nil (to_k0 (fun _ _ h => h) (hK8 _ _ ⟨.inr (by repeat' first | exact subH_nil | refine subH_same rfl ?_ | (refine subH_blk rfl (by repeat' first | exact sub_nil | refine sub_cons rfl ?_) ?_)), ⟨.inl (by kernel_rfl), trivial⟩⟩ ?_))
  clear hK8
  refine aq_done (by kernel_rfl) ?_
  refine (to_k0 (fun _ _ h => h) (hK2 _ _ _ _ _ ?_))
  clear hK2
  refine wp_seq' fun K9 hK9 => ?_
  refine wp_reg ?_
  refine ol_r (r_lda (id := 1) (n := 6) rfl rfl rfl ag57) rfl ?_
  refine ol_store (id := 2) rfl rfl rfl rfl sz57 rfl rfl (by first | decide | exact Nat.zero_lt_succ _ | simp) ?_
  refine ol_nil (to_k0 (fun _ _ h => h) (hK9 _ _ _ _ _ ?_))
  clear hK9
  refine hQ.ret (rvs1 (rv_c (id := 2) (n := 6) rfl rfl ag57 rfl)) (fun _ _ h => h) fun w hb hs hB hkd => ?_
  exact ⟨_, _, _, _, _, _, _, _, _, rfl, hb, hs.three 5 8 11 1001 1002 1003 (by decide) (by decide) (by decide) rfl rfl rfl (Ent.le_refl _) (Ent.le_refl _) (Ent.le_refl _)⟩
theorem track_moved (a : Option Addr) (n c : Nat) (xs : List LapR) (by_ span : Int) (w : World) (hl : Rd encLap w.heap.size w a n c xs) (hn : n ≤ 1000000) (hb : ∀ x ∈ xs, -1000000000000 ≤ x.from_ - by_ ∧ x.from_ - by_ ≤ 1000000000000 ∧ -1000000000000 ≤ x.to - by_ ∧ x.to - by_ ≤ 1000000000000) :
    Calls Try.prog 77 #[.slice a n c, .int .i64 by_, .int .i64 span] w fun e w' => ∃ b m k, e = .returned (.slice b m k) ∧ Fresh encLap 110 w w' b m k (backL by_ span xs) := by
  have hln := hl.len
  refine enterQ (N := 43) (C := fun _ => True) (H := []) (B := w.heap.size) (args := [_, _, _]) Try.func77 rfl rfl rfl (Nat.le_refl _) (Sat.nil _ _) fun Q hQ => ?_
  refine wp_seq' fun K1 hK1 => ?_
  refine wp_reg ?_
  refine ol_r (r_assign rfl) rfl ?_
  refine ol_nil (to_k0 (fun _ _ h => h) (hK1 _ _ _ _ _ ?_))
  clear hK1
  refine wp_seq' fun K2 hK2 => ?_
  refine wp_reg ?_
  refine ol_nilrow 7 110 3 ?_
  refine ol_r (r_assign rfl) rfl ?_
  refine ol_nil (to_k0 (fun _ _ h => h) (hK2 _ _ _ _ _ ?_))
  clear hK2
  refine wp_seq' fun K3 hK3 => ?_
  refine wp_seq' fun K4 hK4 => ?_
  refine wp_reg ?_
  refine ol_r (r_move rfl) rfl ?_
  refine ol_r (r_len rfl sl54) rfl ?_
  refine ol_r (r_move rfl) rfl ?_
  refine ol_nil (to_k0 (fun _ _ h => h) (hK4 _ _ _ _ _ ?_))
  clear hK4
  refine wp_block' ?_
  apply wp_loopM (σ := Nat × Option Addr × Nat × Nat) (fun s => s.1 ≤ xs.length ∧ s.2.2.1 ≤ s.1) (fun s => [(12, .int .i64 s.1), (7, .slice s.2.1 s.2.2.1 s.2.2.2)]) [(1, _), (2, _), (6, _), (10, _), (11, _)] (fun s => [(7, .row s.2.1 s.2.2.1 s.2.2.2 (encLap.enc (backL by_ span (xs.take s.1))) 110 3)]) [] (fun s => xs.length - s.1) ((0, none, 0, 0))
  ·try dsimp only
   exact ⟨Nat.zero_le _, Nat.le_refl _⟩
  ·exact (sub_cons rfl (sub_cons rfl sub_nil))
  ·exact (sub_cons rfl (sub_cons rfl (sub_cons rfl (sub_cons rfl (sub_cons rfl sub_nil)))))
  ·exact (subH_row rfl (by dsimp only; rfl) subH_nil)
  ·exact subH_nil
  ·rintro ⟨k, oa, on, oc⟩ ⟨hk, hon⟩
   dsimp only at hk hon ⊢
   intro K5 hK5
   refine wp_seq' fun K6 hK6 => ?_
   refine wp_reg ?_
   refine ol_r (r_lss rfl rfl) rfl ?_
   refine ol_nil (to_k0 (fun _ _ h => h) (hK6 _ _ _ _ _ ?_))
   clear hK6
   refine wp_seq' fun K7 hK7 => ?_
   refine wp_condD rfl (fun hc13 => ?_) (fun hc13 => ?_)
   ·refine wp_skip' (to_k0 (fun _ _ h => h) (hK7 _ _ _ _ _ ?_))
    clear hK7
    refine wp_seq' fun K8 hK8 => ?_
    refine wp_block' ?_
    refine wp_seq' fun K9 hK9 => ?_
    refine wp_reg ?_
    refine ol_ixr hl rfl rfl sl54 (by omega) rfl fun x14 hx14 => ?_
    try simp only [Int.toNat_natCast] at hx14
    refine ol_r (r_ldw rfl (fun w1 hb1 hs1 hB1 => Rd.loads hl ty110 hx14 hb1)) rfl ?_
    refine ol_alloc 9 z110 rfl fun b9 => ?_
    refine ol_store (id := 9) rfl rfl rfl rfl sz110 rfl rfl (by first | decide | exact Nat.zero_lt_succ _ | simp) ?_
    refine ol_nil (to_k0 (fun _ _ h => h) (hK9 _ _ _ _ _ ?_))
    clear hK9
    refine wp_seq' fun K10 hK10 => ?_
    refine wp_reg ?_
    refine ol_r (r_fa (o' := 0) rfl fl110_0 rfl) rfl ?_
    refine ol_r (r_ld (id := 9) rfl rfl rfl sc3) rfl ?_
    refine ol_r (r_move rfl) rfl ?_
    have hbx := hb _ (List.mem_of_getElem? hx14)
    refine ol_r (r_sub rfl rfl (by omega)) rfl ?_
    refine ol_r (r_max rfl rfl) rfl ?_
    refine ol_r (r_move rfl) rfl ?_
    refine ol_r (r_min rfl rfl) rfl ?_
    refine ol_r (r_fa (o' := 1) rfl fl110_1 rfl) rfl ?_
    refine ol_r (r_ld (id := 9) rfl rfl rfl sc3) rfl ?_
    refine ol_r (r_move rfl) rfl ?_
    refine ol_r (r_sub rfl rfl (by omega)) rfl ?_
    refine ol_r (r_max rfl rfl) rfl ?_
    refine ol_r (r_move rfl) rfl ?_
    refine ol_r (r_min rfl rfl) rfl ?_
    refine ol_r (r_fa (o' := 0) rfl fl110_0 rfl) rfl ?_
    refine ol_store (id := 9) rfl rfl rfl rfl sz3 rfl rfl (by first | decide | exact Nat.zero_lt_succ _ | simp) ?_
    refine ol_r (r_fa (o' := 1) rfl fl110_1 rfl) rfl ?_
    refine ol_store (id := 9) rfl rfl rfl rfl sz3 rfl rfl (by first | decide | exact Nat.zero_lt_succ _ | simp) ?_
    refine ol_nil (to_k0 (fun _ _ h => h) (hK10 _ _ _ _ _ ?_))
    clear hK10
    refine wp_seq' fun K11 hK11 => ?_
    refine wp_reg ?_
    refine ol_r (r_fa (o' := 0) rfl fl110_0 rfl) rfl ?_
    refine ol_r (r_ld (id := 9) rfl rfl rfl sc3) rfl ?_
    refine ol_r (r_fa (o' := 1) rfl fl110_1 rfl) rfl ?_
    refine ol_r (r_ld (id := 9) rfl rfl rfl sc3) rfl ?_
    refine ol_r (r_lss rfl rfl) rfl ?_
    refine ol_nil (to_k0 (fun _ _ h => h) (hK11 _ _ _ _ _ ?_))
    clear hK11
    refine wp_condD rfl (fun hc36 => ?_) (fun hc36 => ?_)
    ·refine wp_reg ?_
     refine ol_r (r_move rfl) rfl ?_
     refine ol_r (r_lda (id := 9) (n := 3) rfl rfl rfl ag110) rfl ?_
     refine ol_bs1 39 rfl rfl rw54 rfl rfl rfl fun a39 => ?_
     refine ol_append1 (id := 7) (id2 := 39) rfl rfl rfl rfl rfl rw54 (by omega) rfl fun a40 c40 => ?_
     refine ol_r (r_assign rfl) rfl ?_
     refine ol_nil (to_k0 (fun _ _ h => h) (hK8 _ _ _ _ _ ?_))
     clear hK8
     refine wp_reg ?_
     refine ol_r (r_add rfl rfl (by omega)) rfl ?_
     refine ol_r (r_move rfl) rfl ?_
     refine ol_nil (to_k0 (fun _ _ h => h) (hK5 ((k + 1, _, _, _)) _ _ ?_ ?_ (sub_cons rfl (sub_cons rfl sub_nil)) (sub_cons rfl (sub_cons rfl (sub_cons rfl (sub_cons rfl (sub_cons rfl sub_nil))))) (by exact (subH_row rfl (by first | (dsimp only; first | (rw [backL_yes hx14 hc36, Enc.enc_append]; rfl) | (rw [backL_no hx14 hc36]); done) | (first | (rw [backL_yes hx14 hc36, Enc.enc_append]; rfl) | (rw [backL_no hx14 hc36]); done) | (dsimp only; done)) subH_nil)) subH_nil))
     ·try dsimp only
      exact ⟨by omega, by omega⟩
     ·try dsimp only
      omega
    ·refine wp_skip' (to_k0 (fun _ _ h => h) (hK8 _ _ _ _ _ ?_))
     clear hK8
     refine wp_reg ?_
     refine ol_r (r_add rfl rfl (by omega)) rfl ?_
     refine ol_r (r_move rfl) rfl ?_
     refine ol_nil (to_k0 (fun _ _ h => h) (hK5 ((k + 1, _, _, _)) _ _ ?_ ?_ (sub_cons rfl (sub_cons rfl sub_nil)) (sub_cons rfl (sub_cons rfl (sub_cons rfl (sub_cons rfl (sub_cons rfl sub_nil))))) (by exact (subH_row rfl (by dsimp only; first | (rw [backL_yes hx14 hc36, Enc.enc_append]; rfl) | (rw [backL_no hx14 hc36])) subH_nil)) subH_nil))
     ·try dsimp only
      exact ⟨by omega, by omega⟩
     ·try dsimp only
      omega
   ·refine wp_exit' (to_k0 (fun _ _ h => h) (hK3 _ _ _ _ _ ?_))
    clear hK3
    refine wp_seq' fun K12 hK12 => ?_
    refine wp_reg ?_
    refine ol_r (r_move rfl) rfl ?_
    refine ol_r (r_assign rfl) rfl ?_
    refine ol_nil (to_k0 (fun _ _ h => h) (hK12 _ _ _ _ _ ?_))
    clear hK12
    refine hQ.ret (rvs1 (rv_t rfl)) (fun _ _ h => h) fun w hb hs hB hkd => ?_
    have h9 := hs.ok 7 _ rfl
    rw [List.take_of_length_le (by omega)] at h9
    exact ⟨_, _, _, rfl, hb, h9⟩
/-- An activity that goes out, in memory of its own. -/
def OutA (B : Nat) (w' : World) (r : ActD × Int) (e : Ending) : Prop :=
  ∃ sa sn sc la ln lc ta tn tc, e = .returned (.tuple #[.agg #[.string r.1.name, .int .i64 r.1.sport, .int .i64 r.1.start, .slice sa sn sc, .slice la ln lc, .slice ta tn tc], .int .i64 r.2]) ∧
    Sat B w' [(1001, .row sa sn sc (encSmp.enc r.1.ss) 70 7), (1002, .row la ln lc (encLap.enc r.1.ls) 110 3), (1003, .row ta tn tc (encStr.enc r.1.ts) 9 1)]
theorem back_lo {l : List SmpR} {b : Int} (hat : ∀ x ∈ l, -1000000000 ≤ x.at_ ∧ x.at_ ≤ 1000000000) (hby : -1000000000 ≤ b ∧ b ≤ 1000000000) : ∀ x ∈ backS b l, -9223372036854775808 ≤ x.at_ ∧ x.at_ ≤ 9223372036854775807 := by
  intro x hx
  obtain ⟨y, hy, rfl⟩ := List.mem_map.1 hx
  have := hat y hy
  show _ ≤ y.at_ - b ∧ y.at_ - b ≤ _
  omega
theorem back_lm {l : List LapR} {b sp : Int} {N : Nat} (h : ∀ x ∈ l, x.name.size ≤ N) : ∀ x ∈ backL b sp l, x.name.size ≤ N := by
  intro x hx
  obtain ⟨y, hy, rfl⟩ := List.mem_map.1 (List.mem_filter.1 hx).1
  exact h y hy
theorem track_part (A : ActV) (a : Option Addr) (n c : Nat) (l : List SmpR) (b : Int) (w : World) (hA : A.Ok w.heap.size w) (hl : Rd encSmp w.heap.size w a n c l) (hg : GoodA A.d) (hn : n ≤ 1000000) (hat : ∀ x ∈ l, -1000000000 ≤ x.at_ ∧ x.at_ ≤ 1000000000) (hby : -1000000000 ≤ b ∧ b ≤ 1000000000) :
    Calls Try.prog 43 #[.agg #[.string A.name, .int .i64 A.sport, .int .i64 A.start, .slice A.sa A.sn A.sc, .slice A.la A.ln A.lc, .slice A.ta A.tn A.tc], .slice a n c, .int .i64 b] w fun e w' => OutA w.heap.size w' (partR A.d l b) e ∧ Below w.heap.size w w' := by
  have hsn := hA.s.len
  have hln := hA.l.len
  have htn := hA.t.len
  have hnn := hl.len
  have hsp := hg.smp.span
  have hlb := lap_bd hg
  have hst := inB_iff.1 hg.head.2.2.1
  obtain ⟨g4, g5, g6⟩ := hg.head.2.2.2
  dsimp only [ActV.d] at hlb hst g4 g5 g6 hsp
  have hlo := back_lo hat hby
  refine enterQ (N := 52) (C := fun _ => True) (H := []) (B := w.heap.size) (args := [_, _, _]) Try.func43 rfl rfl rfl (Nat.le_refl _) (Sat.nil _ _) fun Q hQ => ?_
  refine wp_seq' fun K1 hK1 => ?_
  refine wp_reg ?_
  refine ol_box 3 rfl rfl rfl fun b3 => ?_
  refine ol_alloc 6 z57 rfl fun b6 => ?_
  refine ol_r (r_assign rfl) rfl ?_
  refine ol_nil (to_k0 (fun _ _ h => h) (hK1 _ _ _ _ _ ?_))
  clear hK1
  refine wp_seq' fun K2 hK2 => ?_
  refine wp_reg ?_
  refine ol_r (r_lda (id := 3) (n := 6) rfl rfl rfl ag57) rfl ?_
  refine ol_call rfl rfl cb54 rfl (fun w1 hb1 hs1 hB1 => ?_)
  refine Calls.mono (record_Clone A _ (hA.at hb1 hB1) (by omega) (by omega) (by omega)) ?_
  rintro e w2 ⟨sa, sn, sc, la, ln, lc, ta, tn, tc, rfl, hb2, hs2⟩
  refine After.more rfl hb1 hs1 hB1 hb2 hs2 ?_
  clear hs2 hb2 hB1 hs1 hb1 w2 w1
  refine ol_alloc 8 z57 rfl fun b8 => ?_
  refine ol_store (id := 8) rfl rfl rfl rfl sz57 rfl rfl (by first | decide | exact Nat.zero_lt_succ _ | simp) ?_
  refine ol_nil (to_k0 (fun _ _ h => h) (hK2 _ _ _ _ _ ?_))
  clear hK2
  refine wp_seq' fun K3 hK3 => ?_
  refine wp_reg ?_
  refine ol_r (r_fa (o' := 3) rfl fl57_3 rfl) rfl ?_
  refine ol_store (id := 8) rfl rfl rfl rfl sz53 rfl rfl (by first | decide | exact Nat.zero_lt_succ _ | simp) ?_
  refine ol_nil (to_k0 (fun _ _ h => h) (hK3 _ _ _ _ _ ?_))
  clear hK3
  refine wp_seq' fun K4 hK4 => ?_
  refine wp_seq' fun K5 hK5 => ?_
  refine wp_reg ?_
  refine ol_nilrow 60 70 7 ?_
  refine ol_r (r_move rfl) rfl ?_
  refine ol_r (r_len rfl sl53) rfl ?_
  refine ol_r (r_move rfl) rfl ?_
  refine ol_nil (to_k0 (fun _ _ h => h) (hK5 _ _ _ _ _ ?_))
  clear hK5
  refine wp_block' ?_
  apply wp_loopM (σ := Nat × Option Addr × Nat) (fun s => s.1 ≤ l.length) (fun s => [(17, .int .i64 s.1)]) [(2, _), (3, _), (6, _), (7, _), (8, _), (15, _), (16, _)] (fun s => [(8, .blk b8 [(0, .string A.name), (1, .int .i64 A.sport), (2, .int .i64 A.start), (3, .slice s.2.1 s.1 s.2.2), (4, .slice la ln lc), (5, .slice ta tn tc)] 57), (60, .row s.2.1 s.1 s.2.2 (encSmp.enc (backS b (l.take s.1))) 70 7)]) [(3, _), (6, _), (1001, _), (1002, _), (1003, _)] (fun s => l.length - s.1) ((0, none, 0))
  ·try dsimp only
   exact Nat.zero_le _
  ·exact (sub_cons rfl sub_nil)
  ·exact (sub_cons rfl (sub_cons rfl (sub_cons rfl (sub_cons rfl (sub_cons rfl (sub_cons rfl (sub_cons rfl sub_nil)))))))
  ·exact (subH_blk rfl (sub_cons rfl (sub_cons rfl (sub_cons rfl (sub_cons rfl (sub_cons rfl (sub_cons rfl sub_nil)))))) (subH_row rfl (by dsimp only; rfl) subH_nil))
  ·exact (subH_same rfl (subH_same rfl (subH_same rfl (subH_same rfl (subH_same rfl subH_nil)))))
  ·rintro ⟨k, oa, oc⟩ hk
   dsimp only at hk ⊢
   intro K6 hK6
   refine wp_seq' fun K7 hK7 => ?_
   refine wp_reg ?_
   refine ol_r (r_lss rfl rfl) rfl ?_
   refine ol_nil (to_k0 (fun _ _ h => h) (hK7 _ _ _ _ _ ?_))
   clear hK7
   refine wp_seq' fun K8 hK8 => ?_
   refine wp_condD rfl (fun hc18 => ?_) (fun hc18 => ?_)
   ·refine wp_skip' (to_k0 (fun _ _ h => h) (hK8 _ _ _ _ _ ?_))
    clear hK8
    refine wp_seq' fun K9 hK9 => ?_
    refine wp_block' ?_
    refine wp_seq' fun K10 hK10 => ?_
    refine wp_reg ?_
    refine ol_ixr hl rfl rfl sl53 (by omega) rfl fun x19 hx19 => ?_
    try simp only [Int.toNat_natCast] at hx19
    refine ol_r (r_ldw rfl (fun w1 hb1 hs1 hB1 => Rd.loads hl ty70 hx19 hb1)) rfl ?_
    refine ol_alloc 10 z70 rfl fun b10 => ?_
    refine ol_store (id := 10) rfl rfl rfl rfl sz70 rfl rfl (by first | decide | exact Nat.zero_lt_succ _ | simp) ?_
    refine ol_nil (to_k0 (fun _ _ h => h) (hK10 _ _ _ _ _ ?_))
    clear hK10
    refine wp_seq' fun K11 hK11 => ?_
    refine wp_reg ?_
    refine ol_r (r_fa (o' := 0) rfl fl70_0 rfl) rfl ?_
    refine ol_r (r_ld (id := 10) rfl rfl rfl sc3) rfl ?_
    refine ol_r (r_move rfl) rfl ?_
    have hxa := hat _ (List.mem_of_getElem? hx19)
    refine ol_r (r_sub rfl rfl (by omega)) rfl ?_
    refine ol_r (r_fa (o' := 0) rfl fl70_0 rfl) rfl ?_
    refine ol_store (id := 10) rfl rfl rfl rfl sz3 rfl rfl (by first | decide | exact Nat.zero_lt_succ _ | simp) ?_
    refine ol_nil (to_k0 (fun _ _ h => h) (hK11 _ _ _ _ _ ?_))
    clear hK11
    refine wp_reg ?_
    refine ol_r (r_fa (o' := 3) rfl fl57_3 rfl) rfl ?_
    refine ol_r (r_ld (id := 8) rfl rfl rfl sc53) rfl ?_
    refine ol_r (r_lda (id := 10) (n := 7) rfl rfl rfl ag70) rfl ?_
    refine ol_bs1 29 rfl rfl rw53 rfl rfl rfl fun a29 => ?_
    refine ol_append1 (id := 60) (id2 := 29) rfl rfl rfl rfl rfl rw53 (by omega) rfl fun a30 c30 => ?_
    refine ol_r (r_fa (o' := 3) rfl fl57_3 rfl) rfl ?_
    refine ol_store (id := 8) rfl rfl rfl rfl sz53 rfl rfl (by first | decide | exact Nat.zero_lt_succ _ | simp) ?_
    refine ol_nil (to_k0 (fun _ _ h => h) (hK9 _ _ _ _ _ ?_))
    clear hK9
    refine wp_reg ?_
    refine ol_r (r_add rfl rfl (by omega)) rfl ?_
    refine ol_r (r_move rfl) rfl ?_
    refine ol_nil (to_k0 (fun _ _ h => h) (hK6 ((k + 1, _, _)) _ _ ?_ ?_ (sub_cons rfl sub_nil) (sub_cons rfl (sub_cons rfl (sub_cons rfl (sub_cons rfl (sub_cons rfl (sub_cons rfl (sub_cons rfl sub_nil))))))) (by exact (subH_blk rfl (sub_cons rfl (sub_cons rfl (sub_cons rfl (sub_cons rfl (sub_cons rfl (sub_cons rfl sub_nil)))))) (subH_row rfl (by dsimp only; (rw [backS_succ hx19, Enc.enc_append]; rfl)) subH_nil))) (subH_same rfl (subH_same rfl (subH_same rfl (subH_same rfl (subH_same rfl subH_nil)))))))
    ·try dsimp only
     omega
    ·try dsimp only
     omega
   ·refine wp_exit' (to_k0 (fun _ _ h => h) (hK4 _ _ _ _ _ ?_))
    clear hK4
    refine wp_seq' fun K12 hK12 => ?_
    refine wp_reg ?_
    refine ol_r (r_fa (o' := 2) rfl fl57_2 rfl) rfl ?_
    refine ol_r (r_ld (id := 8) rfl rfl rfl sc3) rfl ?_
    refine ol_r (r_move rfl) rfl ?_
    have hkl : k = l.length := by omega
    subst hkl
    rw [List.take_of_length_le (Nat.le_refl _)]
    refine ol_r (r_add rfl rfl (by omega)) rfl ?_
    refine ol_r (r_fa (o' := 2) rfl fl57_2 rfl) rfl ?_
    refine ol_store (id := 8) rfl rfl rfl rfl sz3 rfl rfl (by first | decide | exact Nat.zero_lt_succ _ | simp) ?_
    refine ol_nil (to_k0 (fun _ _ h => h) (hK12 _ _ _ _ _ ?_))
    clear hK12
    refine wp_seq' fun K13 hK13 => ?_
    refine wp_rega [(999, [(3, _), (6, _), (60, _), (1001, _), (1002, _), (1003, _)]), (7, [(8, _)])] (by kernel_rfl) ⟨.inr (subH_same rfl (subH_same rfl (subH_same rfl (subH_same rfl (subH_same rfl (subH_same rfl subH_nil)))))), ⟨.inr (subH_same rfl subH_nil), trivial⟩⟩ ?_
    refine aq_r 0 999 rfl (by kernel_rfl) (by kernel_rfl) (by kernel_rfl) (.head _) (by kernel_rfl) (by kernel_rfl) rfl (r_fa (o' := 4) rfl fl57_4 rfl) ?_
    refine aq_r 1 999 rfl (by kernel_rfl) (by kernel_rfl) (by kernel_rfl) (.head _) (by kernel_rfl) (by kernel_rfl) rfl (r_ld (id := 3) rfl rfl rfl sc54) ?_
    refine aq_r 2 999 rfl (by kernel_rfl) (by kernel_rfl) (by kernel_rfl) (.head _) (by kernel_rfl) (by kernel_rfl) rfl (r_move rfl) ?_
    refine aq_r 3 7 rfl (by kernel_rfl) (by kernel_rfl) (by kernel_rfl) (.tail _ (.head _)) (by kernel_rfl) (by kernel_rfl) rfl (r_lda (id := 8) (n := 6) rfl rfl rfl ag57) ?_
    refine aq_one (i := 4) (by kernel_rfl) rfl fun K14 hK14 => ?_
    refine ol_call rfl rfl cb41 rfl (fun w1 hb1 hs1 hB1 => Calls.mono (record_Span ⟨A.name, A.sport, A.start + b, oa, l.length, oc, la, ln, lc, ta, tn, tc, backS b l, A.ls, A.ts⟩ _ ⟨Sat.rd hs1 (id := 60) rfl rfl, Sat.rd hs1 (id := 1002) rfl rfl, Sat.rd hs1 (id := 1003) rfl rfl, hA.nm, hA.lm, hA.tm, hlo⟩) ?_)
    rintro e w2 ⟨rfl, hb2⟩
    refine After.below rfl hb1 hs1 hB1 hb2 ?_
    clear hb2 hB1 hs1 hb1 w2 w1
    refine ol_nil (to_k0 (fun _ _ h => h) (hK14 _ _ ⟨.inr (by repeat' first | exact subH_nil | refine subH_same rfl ?_ | (refine subH_blk rfl (by repeat' first | exact sub_nil | refine sub_cons rfl ?_) ?_)), ⟨.inr (by repeat' first | exact subH_nil | refine subH_same rfl ?_ | (refine subH_blk rfl (by repeat' first | exact sub_nil | refine sub_cons rfl ?_) ?_)), trivial⟩⟩ ?_))
    clear hK14
    refine aq_one (i := 5) (by kernel_rfl) rfl fun K15 hK15 => ?_
    refine ol_call rfl rfl cb77 rfl (fun w1 hb1 hs1 hB1 => Calls.mono (track_moved _ _ _ A.ls b _ _ (hA.l.at hb1 hB1) (by omega) (fun x hx => by have := hlb x hx; omega)) ?_)
    rintro e w2 ⟨a43, n43, c43, rfl, hf43⟩
    refine After.fresh (id := 43) rfl hb1 hs1 hB1 hf43 ?_
    have hl43 := hf43.len; clear hf43 hB1 hs1 hb1 w2 w1
    refine ol_nil (to_k0 (fun _ _ h => h) (hK15 _ _ ⟨.inr (by repeat' first | exact subH_nil | refine subH_same rfl ?_ | (refine subH_blk rfl (by repeat' first | exact sub_nil | refine sub_cons rfl ?_) ?_)), ⟨.inr (by repeat' first | exact subH_nil | refine subH_same rfl ?_ | (refine subH_blk rfl (by repeat' first | exact sub_nil | refine sub_cons rfl ?_) ?_)), trivial⟩⟩ ?_))
    clear hK15
    refine aq_r 6 999 rfl (by kernel_rfl) (by kernel_rfl) (by kernel_rfl) (.head _) (by kernel_rfl) (by kernel_rfl) rfl (r_fa (o' := 4) rfl fl57_4 rfl) ?_
    refine aq_one (i := 7) (by kernel_rfl) rfl fun K16 hK16 => ?_
    refine ol_store (id := 8) rfl rfl rfl rfl sz54 rfl rfl (by first | decide | exact Nat.zero_lt_succ _ | simp) ?_
    refine ol_nil (to_k0 (fun _ _ h => h) (hK16 _ _ ⟨.inr (by repeat' first | exact subH_nil | refine subH_same rfl ?_ | (refine subH_blk rfl (by repeat' first | exact sub_nil | refine sub_cons rfl ?_) ?_)), ⟨.inl (by kernel_rfl), trivial⟩⟩ ?_))
    clear hK16
    refine aq_done (by kernel_rfl) ?_
    refine (to_k0 (fun _ _ h => h) (hK13 _ _ _ _ _ ?_))
    clear hK13
    refine wp_seq' fun K17 hK17 => ?_
    refine wp_seq' fun K18 hK18 => ?_
    refine wp_reg ?_
    refine ol_r (r_lda (id := 8) (n := 6) rfl rfl rfl ag57) rfl ?_
    refine ol_call rfl rfl cb20 rfl (fun w1 hb1 hs1 hB1 => Calls.mono (record_Check ⟨A.name, A.sport, A.start + b, oa, l.length, oc, a43, n43, c43, ta, tn, tc, backS b l, backL b (spanL (backS b l)) A.ls, A.ts⟩ _ ⟨Sat.rd hs1 (id := 60) rfl rfl, Sat.rd hs1 (id := 43) rfl rfl, Sat.rd hs1 (id := 1003) rfl rfl, hA.nm, back_lm hA.lm, hA.tm, hlo⟩) ?_)
    rintro e w2 ⟨rfl, hb2⟩
    refine After.below rfl hb1 hs1 hB1 hb2 ?_
    clear hb2 hB1 hs1 hb1 w2 w1
    refine ol_r (r_assign rfl) rfl ?_
    refine ol_nil (to_k0 (fun _ _ h => h) (hK18 _ _ _ _ _ ?_))
    clear hK18
    refine wp_seq' fun K19 hK19 => ?_
    refine wp_reg ?_
    refine ol_r (r_move rfl) rfl ?_
    refine ol_r (r_neq rfl rfl) rfl ?_
    refine ol_nil (to_k0 (fun _ _ h => h) (hK19 _ _ _ _ _ ?_))
    clear hK19
    refine wp_condD rfl (fun hc48 => ?_) (fun hc48 => ?_)
    ·refine wp_seq' fun K20 hK20 => ?_
     refine wp_reg ?_
     refine ol_r (r_build rfl (fun _ => bd57 _)) rfl ?_
     refine ol_r (r_move rfl) rfl ?_
     refine ol_store (id := 6) rfl rfl rfl rfl sz57 rfl rfl (by first | decide | exact Nat.zero_lt_succ _ | simp) ?_
     refine ol_r (r_assign rfl) rfl ?_
     refine ol_nil (to_k0 (fun _ _ h => h) (hK20 _ _ _ _ _ ?_))
     clear hK20
     refine hQ.ret (rvs2 (rv_c (id := 6) (n := 6) rfl rfl ag57 rfl) (rv_t rfl)) (fun _ _ h => h) fun w hb hs hB hkd => ?_
     have h := partR_e (a := A.d) (l := l) (b := b) hc48
     refine ⟨⟨none, 0, 0, none, 0, 0, none, 0, 0, ?_, ?_⟩, hb⟩
     · rw [h]; rfl
     · rw [h]; exact ((((Sat.nil _ _).nilRow 1003 _ _).nilRow 1002 _ _).nilRow 1001 _ _)
    ·refine wp_skip' (to_k0 (fun _ _ h => h) (hK17 _ _ _ _ _ ?_))
     clear hK17
     refine wp_seq' fun K21 hK21 => ?_
     refine wp_reg ?_
     refine ol_r (r_lda (id := 8) (n := 6) rfl rfl rfl ag57) rfl ?_
     refine ol_store (id := 6) rfl rfl rfl rfl sz57 rfl rfl (by first | decide | exact Nat.zero_lt_succ _ | simp) ?_
     refine ol_r (r_assign rfl) rfl ?_
     refine ol_nil (to_k0 (fun _ _ h => h) (hK21 _ _ _ _ _ ?_))
     clear hK21
     refine hQ.ret (rvs2 (rv_c (id := 6) (n := 6) rfl rfl ag57 rfl) (rv_t rfl)) (fun _ _ h => h) fun w hb hs hB hkd => ?_
     have h := partR_0 (a := A.d) (l := l) (b := b) hc48
     exact ⟨⟨oa, l.length, oc, a43, n43, c43, ta, tn, tc, by rw [h]; rfl, by rw [h]; exact hs.three 60 43 1003 1001 1002 1003 (by decide) (by decide) (by decide) rfl rfl rfl (Ent.le_refl _) (Ent.le_refl _) (Ent.le_refl _)⟩, hb⟩
end Go.Proofs.Ytfbmkepogcimlaa

/-
  Activities with other samples: the reference.
-/


namespace Go.Proofs.Ytfbmkepogcimlaa
open Go Go.RowKit Hx
set_option linter.unusedVariables false
set_option linter.unusedSimpArgs false
set_option maxRecDepth 8000
/-- What is kept of an activity that was checked. -/
def Ckd (A : ActV) (nm : ByteArray) (sp st : Int) (sa : Option Addr) (sn sc : Nat) (la : Option Addr) (ln lc : Nat) (ta : Option Addr) (tn tc : Nat) : Prop :=
  (chkA A.d ≠ 0 ∧ nm = ByteArray.empty ∧ sp = 0 ∧ st = 0 ∧ (sa = none ∧ sn = 0 ∧ sc = 0) ∧ (la = none ∧ ln = 0 ∧ lc = 0) ∧ (ta = none ∧ tn = 0 ∧ tc = 0)) ∨
  (chkA A.d = 0 ∧ nm = A.name ∧ sp = A.sport ∧ st = A.start ∧ (sa = A.sa ∧ sn = A.sn ∧ sc = A.sc) ∧ (la = A.la ∧ ln = A.ln ∧ lc = A.lc) ∧ (ta = A.ta ∧ tn = A.tn ∧ tc = A.tc))
theorem outA_no {B : Nat} {w' : World} {r : ActD × Int} {er : Int} (h : r = (noA, er)) : OutA B w' r (.returned (.tuple #[.agg #[.string ByteArray.empty, .int .i64 0, .int .i64 0, .slice none 0 0, .slice none 0 0, .slice none 0 0], .int .i64 er])) := by
  subst h
  exact ⟨none, 0, 0, none, 0, 0, none, 0, 0, rfl, ((((Sat.nil _ _).nilRow 1003 _ _).nilRow 1002 _ _).nilRow 1001 _ _)⟩
end Go.Proofs.Ytfbmkepogcimlaa

/-
  Same: two activities that read alike.
-/

namespace Go.Proofs.Ytfbmkepogcimlaa
open Go Go.RowKit Hx
set_option linter.unusedVariables false
set_option linter.unusedSimpArgs false
set_option maxRecDepth 8000
end Go.Proofs.Ytfbmkepogcimlaa

/-
  Climb: program and reference.
-/



namespace Go.Proofs.Ytfbmkepogcimlaa
open Go Go.RowKit Hx
set_option linter.unusedVariables false
set_option linter.unusedSimpArgs false
set_option maxRecDepth 8000
theorem track_plus (a b n : Int) (w : World) (h : -9223372036854775808 ≤ a + n ∧ a + n ≤ 9223372036854775807) :
    Calls Try.prog 49 #[.agg #[.int .i64 a, .int .i64 b], .int .i64 n] w fun e w' => e = .returned (.agg #[.int .i64 (a + n), .int .i64 b]) ∧ Below w.heap.size w w' := by
  refine enterQ (N := 12) (C := fun _ => True) (H := []) (B := w.heap.size) (args := [_, _]) Try.func49 rfl rfl rfl (Nat.le_refl _) (Sat.nil _ _) fun Q hQ => ?_
  refine wp_seq' fun K1 hK1 => ?_
  refine wp_reg ?_
  refine ol_box 2 rfl rfl rfl fun b2 => ?_
  refine ol_alloc 4 z112 rfl fun b4 => ?_
  refine ol_nil (to_k0 (fun _ _ h => h) (hK1 _ _ _ _ _ ?_))
  clear hK1
  refine wp_seq' fun K2 hK2 => ?_
  refine wp_reg ?_
  refine ol_r (r_fa (o' := 0) rfl fl112_0 rfl) rfl ?_
  refine ol_r (r_ld (id := 2) rfl rfl rfl sc3) rfl ?_
  refine ol_r (r_move rfl) rfl ?_
  refine ol_r (r_add rfl rfl (by omega)) rfl ?_
  refine ol_r (r_fa (o' := 1) rfl fl112_1 rfl) rfl ?_
  refine ol_r (r_ld (id := 2) rfl rfl rfl sc3) rfl ?_
  refine ol_r (r_build rfl (fun _ => bd112_0_1 _ _ _)) rfl ?_
  refine ol_store (id := 4) rfl rfl rfl rfl sz112 rfl rfl (by first | decide | exact Nat.zero_lt_succ _ | simp) ?_
  refine ol_nil (to_k0 (fun _ _ h => h) (hK2 _ _ _ _ _ ?_))
  clear hK2
  refine hQ.ret (rvs1 (rv_c (id := 4) (n := 2) rfl rfl ag112 rfl)) (fun _ _ h => h) fun w hb hs hB hkd => ?_
  exact ⟨rfl, hb⟩
theorem track_better (a b : Int × Int) (w : World) :
    Calls Try.prog 50 #[.agg #[.int .i64 a.1, .int .i64 a.2], .agg #[.int .i64 b.1, .int .i64 b.2]] w fun e w' => e = .returned (.bool (betB a b)) ∧ Below w.heap.size w w' := by
  refine enterQ (N := 24) (C := fun _ => True) (H := []) (B := w.heap.size) (args := [_, _]) Try.func50 rfl rfl rfl (Nat.le_refl _) (Sat.nil _ _) fun Q hQ => ?_
  refine wp_seq' fun K1 hK1 => ?_
  refine wp_reg ?_
  refine ol_box 2 rfl rfl rfl fun b2 => ?_
  refine ol_box 3 rfl rfl rfl fun b3 => ?_
  refine ol_r (r_assign rfl) rfl ?_
  refine ol_nil (to_k0 (fun _ _ h => h) (hK1 _ _ _ _ _ ?_))
  clear hK1
  refine wp_seq' fun K2 hK2 => ?_
  refine wp_reg ?_
  refine ol_r (r_fa (o' := 0) rfl fl112_0 rfl) rfl ?_
  refine ol_r (r_ld (id := 2) rfl rfl rfl sc3) rfl ?_
  refine ol_r (r_fa (o' := 0) rfl fl112_0 rfl) rfl ?_
  refine ol_r (r_ld (id := 3) rfl rfl rfl sc3) rfl ?_
  refine ol_r (r_gtr rfl rfl) rfl ?_
  refine ol_r (r_move rfl) rfl ?_
  refine ol_split (d := 10) rfl (fun hs10 => ?_) (fun hs10 => ?_)
  ·have phs10 := hs10; try simp only [decide_eq_true_eq, decide_eq_false_iff_not, Bool.not_eq_true', Bool.not_eq_false', Bool.not_true, Bool.not_false] at phs10
   refine ol_s rfl rfl hs10 rfl ?_
   refine ol_s rfl rfl hs10 rfl ?_
   refine ol_s rfl rfl hs10 rfl ?_
   refine ol_s rfl rfl hs10 rfl ?_
   refine ol_s rfl rfl hs10 rfl ?_
   refine ol_s rfl rfl hs10 rfl ?_
   refine ol_u rfl rfl rfl ?_
   refine ol_u rfl rfl rfl ?_
   refine ol_u rfl rfl rfl ?_
   refine ol_u rfl rfl rfl ?_
   refine ol_u rfl rfl rfl ?_
   refine ol_s rfl rfl hs10 rfl ?_
   refine ol_r (r_pickT rfl hs10 rfl) rfl ?_
   refine ol_r (r_assign rfl) rfl ?_
   refine ol_nil (to_k0 (fun _ _ h => h) (hK2 _ _ _ _ _ ?_))
   clear hK2
   refine hQ.ret (rvs1 (rv_t rfl)) (fun _ _ h => h) fun w hb hs hB hkd => ?_
   exact ⟨by unfold betB; rw [show decide (b.1 < a.1) = true from hs10, Bool.true_or], hb⟩
  ·have phs10 := hs10; try simp only [decide_eq_true_eq, decide_eq_false_iff_not, Bool.not_eq_true', Bool.not_eq_false', Bool.not_true, Bool.not_false] at phs10
   refine ol_g rfl rfl hs10 ?_
   refine ol_r (r_fa (o' := 0) rfl fl112_0 rfl) rfl ?_
   refine ol_g rfl rfl hs10 ?_
   refine ol_r (r_ld (id := 2) rfl rfl rfl sc3) rfl ?_
   refine ol_g rfl rfl hs10 ?_
   refine ol_r (r_fa (o' := 0) rfl fl112_0 rfl) rfl ?_
   refine ol_g rfl rfl hs10 ?_
   refine ol_r (r_ld (id := 3) rfl rfl rfl sc3) rfl ?_
   refine ol_g rfl rfl hs10 ?_
   refine ol_r (r_eql rfl rfl) rfl ?_
   refine ol_g rfl rfl hs10 ?_
   refine ol_r (r_move rfl) rfl ?_
   refine ol_split (d := 16) rfl (fun hs16 => ?_) (fun hs16 => ?_)
   ·have phs16 := hs16; try simp only [decide_eq_true_eq, decide_eq_false_iff_not, Bool.not_eq_true', Bool.not_eq_false', Bool.not_true, Bool.not_false] at phs16
    refine ol_g rfl rfl hs16 ?_
    refine ol_r (r_fa (o' := 1) rfl fl112_1 rfl) rfl ?_
    refine ol_g rfl rfl hs16 ?_
    refine ol_r (r_ld (id := 2) rfl rfl rfl sc3) rfl ?_
    refine ol_g rfl rfl hs16 ?_
    refine ol_r (r_fa (o' := 1) rfl fl112_1 rfl) rfl ?_
    refine ol_g rfl rfl hs16 ?_
    refine ol_r (r_ld (id := 3) rfl rfl rfl sc3) rfl ?_
    refine ol_g rfl rfl hs16 ?_
    refine ol_r (r_lss rfl rfl) rfl ?_
    refine ol_g rfl rfl hs10 ?_
    refine ol_r (r_pickT rfl hs16 rfl) rfl ?_
    refine ol_r (r_pickF rfl hs10 rfl) rfl ?_
    refine ol_r (r_assign rfl) rfl ?_
    refine ol_nil (to_k0 (fun _ _ h => h) (hK2 _ _ _ _ _ ?_))
    clear hK2
    refine hQ.ret (rvs1 (rv_t rfl)) (fun _ _ h => h) fun w hb hs hB hkd => ?_
    exact ⟨by unfold betB; rw [show decide (b.1 < a.1) = false from hs10, show decide (a.1 = b.1) = true from hs16, Bool.false_or, Bool.true_and], hb⟩
   ·have phs16 := hs16; try simp only [decide_eq_true_eq, decide_eq_false_iff_not, Bool.not_eq_true', Bool.not_eq_false', Bool.not_true, Bool.not_false] at phs16
    refine ol_s rfl rfl hs16 rfl ?_
    refine ol_s rfl rfl hs16 rfl ?_
    refine ol_s rfl rfl hs16 rfl ?_
    refine ol_s rfl rfl hs16 rfl ?_
    refine ol_s rfl rfl hs16 rfl ?_
    refine ol_g rfl rfl hs10 ?_
    refine ol_r (r_pickF rfl hs16 rfl) rfl ?_
    refine ol_r (r_pickF rfl hs10 rfl) rfl ?_
    refine ol_r (r_assign rfl) rfl ?_
    refine ol_nil (to_k0 (fun _ _ h => h) (hK2 _ _ _ _ _ ?_))
    clear hK2
    refine hQ.ret (rvs1 (rv_t rfl)) (fun _ _ h => h) fun w hb hs hB hkd => ?_
    exact ⟨by unfold betB; rw [show decide (b.1 < a.1) = false from hs10, show decide (a.1 = b.1) = false from hs16]; rfl, hb⟩
theorem pickB_n {a b : Int × Int} (h : betB a b = false) : pickB a b = b := pickB_f (by rw [h]; simp)
theorem clm_eq {s : Clm} {th : Int} {x : SmpR} {o u d : Int × Int} (ho : o = s.on x.z) (hu : u = pickB (o.1 - th - x.z, o.2 + 1) s.u) (hd : d = pickB (o.1 - th + x.z, o.2 + 1) s.d) : (⟨u, d, o⟩ : Clm) = s.next th x := by
  subst ho; subst hu; subst hd; rfl
theorem drop_take_all {α : Type} {xs : List α} {n : Nat} (h : xs.length = n) : ((xs.drop ((1 : Int)).toNat).take ((n : Int).toNat - ((1 : Int)).toNat)) = xs.tail := by
  rw [show ((1 : Int)).toNat = 1 from rfl, List.drop_one, List.take_of_length_le (by rw [List.length_tail]; omega)]
theorem betB_4 {a b c d : Int} : betB (a, b) (c, d) = (decide (c < a) || (decide (a = c) && decide (b < d))) := rfl
theorem track_Climb (A : ActV) (th : Int) (w : World) (hA : A.Ok w.heap.size w) :
    Calls Try.prog 22 #[.agg #[.string A.name, .int .i64 A.sport, .int .i64 A.start, .slice A.sa A.sn A.sc, .slice A.la A.ln A.lc, .slice A.ta A.tn A.tc], .int .i64 th] w fun e w' => e = .returned (.tuple #[.agg #[.int .i64 (climbR A.d th).1.1, .int .i64 (climbR A.d th).1.2.1, .int .i64 (climbR A.d th).1.2.2], .int .i64 (climbR A.d th).2]) ∧ Below w.heap.size w w' := by
  have hsn := hA.s.len
  have hsf := hA.s.fit
  refine enterQ (N := 120) (C := fun _ => True) (H := []) (B := w.heap.size) (args := [_, _]) Try.func22 rfl rfl rfl (Nat.le_refl _) (Sat.nil _ _) fun Q hQ => ?_
  refine wp_seq' fun K1 hK1 => ?_
  refine wp_reg ?_
  refine ol_box 2 rfl rfl rfl fun b2 => ?_
  refine ol_alloc 4 z79 rfl fun b4 => ?_
  refine ol_r (r_assign rfl) rfl ?_
  refine ol_nil (to_k0 (fun _ _ h => h) (hK1 _ _ _ _ _ ?_))
  clear hK1
  refine wp_seq' fun K2 hK2 => ?_
  refine wp_seq' fun K3 hK3 => ?_
  refine wp_reg ?_
  refine ol_r (r_lda (id := 2) (n := 6) rfl rfl rfl ag57) rfl ?_
  refine ol_call rfl rfl cb20 rfl (fun w1 hb1 hs1 hB1 => Calls.mono (record_Check A _ (hA.at hb1 hB1)) ?_)
  rintro e w2 ⟨rfl, hb2⟩
  refine After.below rfl hb1 hs1 hB1 hb2 ?_
  clear hb2 hB1 hs1 hb1 w2 w1
  refine ol_r (r_assign rfl) rfl ?_
  refine ol_nil (to_k0 (fun _ _ h => h) (hK3 _ _ _ _ _ ?_))
  clear hK3
  refine wp_seq' fun K4 hK4 => ?_
  refine wp_reg ?_
  refine ol_r (r_move rfl) rfl ?_
  refine ol_r (r_neq rfl rfl) rfl ?_
  refine ol_nil (to_k0 (fun _ _ h => h) (hK4 _ _ _ _ _ ?_))
  clear hK4
  refine wp_condD rfl (fun hc22 => ?_) (fun hc22 => ?_)
  ·refine wp_seq' fun K5 hK5 => ?_
   refine wp_reg ?_
   refine ol_r (r_build rfl (fun _ => bd79 _)) rfl ?_
   refine ol_r (r_move rfl) rfl ?_
   refine ol_store (id := 4) rfl rfl rfl rfl sz79 rfl rfl (by first | decide | exact Nat.zero_lt_succ _ | simp) ?_
   refine ol_r (r_assign rfl) rfl ?_
   refine ol_nil (to_k0 (fun _ _ h => h) (hK5 _ _ _ _ _ ?_))
   clear hK5
   refine hQ.ret (rvs2 (rv_c (id := 4) (n := 3) rfl rfl ag79 rfl) (rv_t rfl)) (fun _ _ h => h) fun w hb hs hB hkd => ?_
   first
     | (have h := climbR_e (th := th) hc22
        exact ⟨by rw [h], hb⟩)
  ·refine wp_skip' (to_k0 (fun _ _ h => h) (hK2 _ _ _ _ _ ?_))
   clear hK2
   refine wp_seq' fun K6 hK6 => ?_
   refine wp_seq' fun K7 hK7 => ?_
   refine wp_reg ?_
   have h0 : chkA A.d = 0 := Decidable.not_not.1 hc22
   have hok : SmpOk A.start A.ss := (goodA h0).smp
   have hl20 := hok.len
   refine ol_r (r_move rfl) rfl ?_
   refine ol_call rfl rfl cb48 rfl (fun w1 hb1 hs1 hB1 => Calls.mono (track_in _ _ _ _) ?_)
   rintro e w2 ⟨rfl, hb2⟩
   refine After.below rfl hb1 hs1 hB1 hb2 ?_
   clear hb2 hB1 hs1 hb1 w2 w1
   refine ol_r (r_not rfl) rfl ?_
   refine ol_nil (to_k0 (fun _ _ h => h) (hK7 _ _ _ _ _ ?_))
   clear hK7
   refine wp_condNB rfl (fun hc27 => ?_) (fun hc27 => ?_)
   ·refine wp_seq' fun K8 hK8 => ?_
    refine wp_reg ?_
    refine ol_r (r_build rfl (fun _ => bd79 _)) rfl ?_
    refine ol_store (id := 4) rfl rfl rfl rfl sz79 rfl rfl (by first | decide | exact Nat.zero_lt_succ _ | simp) ?_
    refine ol_r (r_assign rfl) rfl ?_
    refine ol_nil (to_k0 (fun _ _ h => h) (hK8 _ _ _ _ _ ?_))
    clear hK8
    refine hQ.ret (rvs2 (rv_c (id := 4) (n := 3) rfl rfl ag79 rfl) (rv_t rfl)) (fun _ _ h => h) fun w hb hs hB hkd => ?_
    first
      | (have h := climbR_9 (Decidable.not_not.1 hc22) (th := th) (by have := inB_not.1 hc27; omega)
         exact ⟨by rw [h], hb⟩)
   ·refine wp_skip' (to_k0 (fun _ _ h => h) (hK6 _ _ _ _ _ ?_))
    clear hK6
    refine wp_seq' fun K9 hK9 => ?_
    refine wp_seq' fun K10 hK10 => ?_
    refine wp_reg ?_
    refine ol_r (r_fa (o' := 3) rfl fl57_3 rfl) rfl ?_
    refine ol_r (r_ld (id := 2) rfl rfl rfl sc53) rfl ?_
    refine ol_r (r_len rfl sl53) rfl ?_
    refine ol_r (r_lss rfl rfl) rfl ?_
    refine ol_nil (to_k0 (fun _ _ h => h) (hK10 _ _ _ _ _ ?_))
    clear hK10
    refine wp_condD rfl (fun hc32 => ?_) (fun hc32 => ?_)
    ·refine wp_seq' fun K11 hK11 => ?_
     refine wp_reg ?_
     refine ol_r (r_build rfl (fun _ => bd79 _)) rfl ?_
     refine ol_store (id := 4) rfl rfl rfl rfl sz79 rfl rfl (by first | decide | exact Nat.zero_lt_succ _ | simp) ?_
     refine ol_r (r_assign rfl) rfl ?_
     refine ol_nil (to_k0 (fun _ _ h => h) (hK11 _ _ _ _ _ ?_))
     clear hK11
     refine hQ.ret (rvs2 (rv_c (id := 4) (n := 3) rfl rfl ag79 rfl) (rv_t rfl)) (fun _ _ h => h) fun w hb hs hB hkd => ?_
     first
       | (have h := climbR_0 (Decidable.not_not.1 hc22) (th := th) (inB_iff.1 hc27) (by show A.ss.length < 2; omega)
          exact ⟨by rw [h], hb⟩)
    ·refine wp_skip' (to_k0 (fun _ _ h => h) (hK9 _ _ _ _ _ ?_))
     clear hK9
     refine wp_seq' fun K12 hK12 => ?_
     refine wp_reg ?_
     refine ol_r (r_fa (o' := 3) rfl fl57_3 rfl) rfl ?_
     refine ol_r (r_ld (id := 2) rfl rfl rfl sc53) rfl ?_
     refine ol_ixr hA.s rfl rfl sl53 (by omega) rfl fun x36 hx36 => ?_
     try simp only [Int.toNat_natCast] at hx36
     refine ol_r (r_faw rfl (ix_some hA.s (by omega)) fl70_3) rfl ?_
     refine ol_r (r_ldw rfl (fun w1 hb1 hs1 hB1 => Rd.loadsF (o := 3) hA.s sc3 hx36 hb1 rfl)) rfl ?_
     refine ol_r (r_assign rfl) rfl ?_
     refine ol_nil (to_k0 (fun _ _ h => h) (hK12 _ _ _ _ _ ?_))
     clear hK12
     refine wp_seq' fun K13 hK13 => ?_
     refine wp_reg ?_
     refine ol_r (r_move rfl) rfl ?_
     have hz0 := hok.hgt (List.mem_of_getElem? hx36)
     have hth := inB_iff.1 hc27
     have hzz := zAt_eq hx36
     refine ol_r (r_neg rfl (by omega)) rfl ?_
     refine ol_r (r_build rfl (fun _ => bd112_0_1 _ _ _)) rfl ?_
     refine ol_r (r_move rfl) rfl ?_
     refine ol_r (r_build rfl (fun _ => bd112_0_1 _ _ _)) rfl ?_
     refine ol_alloc 8 z112 rfl fun b8 => ?_
     refine ol_alloc 9 z112 rfl fun b9 => ?_
     refine ol_store (id := 8) rfl rfl rfl rfl sz112 rfl rfl (by first | decide | exact Nat.zero_lt_succ _ | simp) ?_
     refine ol_store (id := 9) rfl rfl rfl rfl sz112 rfl rfl (by first | decide | exact Nat.zero_lt_succ _ | simp) ?_
     refine ol_nil (to_k0 (fun _ _ h => h) (hK13 _ _ _ _ _ ?_))
     clear hK13
     refine wp_seq' fun K14 hK14 => ?_
     refine wp_reg ?_
     refine ol_alloc 10 z112 rfl fun b10 => ?_
     refine ol_nil (to_k0 (fun _ _ h => h) (hK14 _ _ _ _ _ ?_))
     clear hK14
     refine wp_seq' fun K15 hK15 => ?_
     refine wp_seq' fun K16 hK16 => ?_
     refine wp_reg ?_
     refine ol_r (r_fa (o' := 3) rfl fl57_3 rfl) rfl ?_
     refine ol_r (r_ld (id := 2) rfl rfl rfl sc53) rfl ?_
     refine ol_slr hA.s rfl rfl rfl sl53 (by simp only [Option.getD_some, Option.getD_none]; omega) rfl fun a46 c46 hl46 => ?_
     try simp only [Option.getD_some, Option.getD_none] at hl46 ⊢
     rw [drop_take_all hsn] at hl46
     have hzs : ∀ x ∈ A.ss.tail, -100000 ≤ x.z ∧ x.z ≤ 100000 := fun x hx => hok.hgt (List.mem_of_mem_tail hx)
     refine ol_r (r_len rfl sl53) rfl ?_
     refine ol_r (r_move rfl) rfl ?_
     refine ol_nil (to_k0 (fun _ _ h => h) (hK16 _ _ _ _ _ ?_))
     clear hK16
     refine wp_block' ?_
     apply wp_loopM (σ := Nat × Clm) (fun s => s.1 ≤ A.ss.length - 1 ∧ s.2 = clmK th x36.z A.ss.tail s.1) (fun s => [(48, .int .i64 s.1)]) [(1, _), (2, _), (4, _), (5, _), (7, _), (8, _), (9, _), (10, _), (46, _), (47, _)] (fun s => [(8, .blk b8 [(0, .int .i64 s.2.u.1), (1, .int .i64 s.2.u.2)] 112), (9, .blk b9 [(0, .int .i64 s.2.d.1), (1, .int .i64 s.2.d.2)] 112), (10, .blk b10 [(0, .int .i64 s.2.o.1), (1, .int .i64 s.2.o.2)] 112)]) [(2, _), (4, _)] (fun s => A.ss.length - s.1) ((0, Clm.init x36.z))
     ·try dsimp only
      exact ⟨Nat.zero_le _, rfl⟩
     ·exact (sub_cons rfl sub_nil)
     ·exact (sub_cons rfl (sub_cons rfl (sub_cons rfl (sub_cons rfl (sub_cons rfl (sub_cons rfl (sub_cons rfl (sub_cons rfl (sub_cons rfl (sub_cons rfl sub_nil))))))))))
     ·exact (subH_blk rfl (sub_cons rfl (sub_cons rfl sub_nil)) (subH_blk rfl (sub_cons rfl (sub_cons rfl sub_nil)) (subH_blk rfl (sub_cons rfl (sub_cons rfl sub_nil)) subH_nil)))
     ·exact (subH_same rfl (subH_same rfl subH_nil))
     ·rintro ⟨k, ⟨⟨ua, uc⟩, ⟨da, dc⟩, ⟨oa, oc⟩⟩⟩ ⟨hk, hc⟩
      dsimp only at hk hc ⊢
      have hbd := clmK_bd hz0 hzs hth k (by rw [List.length_tail]; exact hk)
      rw [← hc] at hbd
      obtain ⟨⟨u1, u2, u3, u4⟩, ⟨d1, d2, d3, d4⟩, ⟨o1, o2, o3, o4⟩⟩ := hbd
      dsimp only at u1 u2 u3 u4 d1 d2 d3 d4 o1 o2 o3 o4
      intro K17 hK17
      refine wp_seq' fun K18 hK18 => ?_
      refine wp_reg ?_
      refine ol_r (r_lss rfl rfl) rfl ?_
      refine ol_nil (to_k0 (fun _ _ h => h) (hK18 _ _ _ _ _ ?_))
      clear hK18
      refine wp_seq' fun K19 hK19 => ?_
      refine wp_condD rfl (fun hc49 => ?_) (fun hc49 => ?_)
      ·refine wp_skip' (to_k0 (fun _ _ h => h) (hK19 _ _ _ _ _ ?_))
       clear hK19
       refine wp_seq' fun K20 hK20 => ?_
       refine wp_block' ?_
       refine wp_seq' fun K21 hK21 => ?_
       refine wp_reg ?_
       refine ol_ixr hl46 rfl rfl sl53 (by omega) rfl fun x50 hx50 => ?_
       try simp only [Int.toNat_natCast] at hx50
       refine ol_r (r_ldw rfl (fun w1 hb1 hs1 hB1 => Rd.loads hl46 ty70 hx50 hb1)) rfl ?_
       refine ol_alloc 12 z70 rfl fun b12 => ?_
       refine ol_store (id := 12) rfl rfl rfl rfl sz70 rfl rfl (by first | decide | exact Nat.zero_lt_succ _ | simp) ?_
       refine ol_nil (to_k0 (fun _ _ h => h) (hK21 _ _ _ _ _ ?_))
       clear hK21
       refine wp_seq' fun K22 hK22 => ?_
       refine wp_reg ?_
       refine ol_r (r_lda (id := 8) (n := 2) rfl rfl rfl ag112) rfl ?_
       have hz := hzs _ (List.mem_of_getElem? hx50)
       refine ol_r (r_fa (o' := 3) rfl fl70_3 rfl) rfl ?_
       refine ol_r (r_ld (id := 12) rfl rfl rfl sc3) rfl ?_
       refine ol_call rfl rfl cb49 rfl (fun w1 hb1 hs1 hB1 => Calls.mono (track_plus _ _ _ _ (by omega)) ?_)
       rintro e w2 ⟨rfl, hb2⟩
       refine After.below rfl hb1 hs1 hB1 hb2 ?_
       clear hb2 hB1 hs1 hb1 w2 w1
       refine ol_store (id := 10) rfl rfl rfl rfl sz112 rfl rfl (by first | decide | exact Nat.zero_lt_succ _ | simp) ?_
       refine ol_nil (to_k0 (fun _ _ h => h) (hK22 _ _ _ _ _ ?_))
       clear hK22
       refine wp_seq' fun K23 hK23 => ?_
       refine wp_seq' fun K24 hK24 => ?_
       refine wp_reg ?_
       refine ol_r (r_lda (id := 9) (n := 2) rfl rfl rfl ag112) rfl ?_
       refine ol_r (r_fa (o' := 3) rfl fl70_3 rfl) rfl ?_
       refine ol_r (r_ld (id := 12) rfl rfl rfl sc3) rfl ?_
       refine ol_r (r_neg rfl (by omega)) rfl ?_
       refine ol_call rfl rfl cb49 rfl (fun w1 hb1 hs1 hB1 => Calls.mono (track_plus _ _ _ _ (by omega)) ?_)
       rintro e w2 ⟨rfl, hb2⟩
       refine After.below rfl hb1 hs1 hB1 hb2 ?_
       clear hb2 hB1 hs1 hb1 w2 w1
       refine ol_alloc 13 z112 rfl fun b13 => ?_
       refine ol_store (id := 13) rfl rfl rfl rfl sz112 rfl rfl (by first | decide | exact Nat.zero_lt_succ _ | simp) ?_
       refine ol_nil (to_k0 (fun _ _ h => h) (hK24 _ _ _ _ _ ?_))
       clear hK24
       refine wp_seq' fun K25 hK25 => ?_
       refine wp_reg ?_
       refine ol_r (r_lda (id := 13) (n := 2) rfl rfl rfl ag112) rfl ?_
       refine ol_r (r_lda (id := 10) (n := 2) rfl rfl rfl ag112) rfl ?_
       refine ol_call rfl rfl cb50 rfl (fun w1 hb1 hs1 hB1 => Calls.mono (track_better (_, _) (_, _) _) ?_)
       rintro e w2 ⟨rfl, hb2⟩
       refine After.below rfl hb1 hs1 hB1 hb2 ?_
       clear hb2 hB1 hs1 hb1 w2 w1
       refine ol_nil (to_k0 (fun _ _ h => h) (hK25 _ _ _ _ _ ?_))
       clear hK25
       refine wp_cond' rfl (fun hc63 => ?_) (fun hc63 => ?_)
       ·refine wp_reg ?_
        refine ol_r (r_lda (id := 13) (n := 2) rfl rfl rfl ag112) rfl ?_
        refine ol_store (id := 10) rfl rfl rfl rfl sz112 rfl rfl (by first | decide | exact Nat.zero_lt_succ _ | simp) ?_
        refine ol_nil (to_k0 (fun _ _ h => h) (hK23 _ _ _ _ _ ?_))
        clear hK23
        refine wp_seq' fun K26 hK26 => ?_
        refine wp_reg ?_
        refine ol_r (r_fa (o' := 0) rfl fl112_0 rfl) rfl ?_
        refine ol_r (r_ld (id := 10) rfl rfl rfl sc3) rfl ?_
        refine ol_r (r_move rfl) rfl ?_
        refine ol_r (r_sub rfl rfl (by omega)) rfl ?_
        refine ol_r (r_fa (o' := 1) rfl fl112_1 rfl) rfl ?_
        refine ol_r (r_ld (id := 10) rfl rfl rfl sc3) rfl ?_
        refine ol_r (r_add rfl rfl (by omega)) rfl ?_
        refine ol_r (r_build rfl (fun _ => bd112_0_1 _ _ _)) rfl ?_
        refine ol_alloc 14 z112 rfl fun b14 => ?_
        refine ol_store (id := 14) rfl rfl rfl rfl sz112 rfl rfl (by first | decide | exact Nat.zero_lt_succ _ | simp) ?_
        refine ol_nil (to_k0 (fun _ _ h => h) (hK26 _ _ _ _ _ ?_))
        clear hK26
        refine wp_seq' fun K27 hK27 => ?_
        refine wp_seq' fun K28 hK28 => ?_
        refine wp_reg ?_
        refine ol_r (r_lda (id := 14) (n := 2) rfl rfl rfl ag112) rfl ?_
        refine ol_r (r_fa (o' := 3) rfl fl70_3 rfl) rfl ?_
        refine ol_r (r_ld (id := 12) rfl rfl rfl sc3) rfl ?_
        refine ol_r (r_neg rfl (by omega)) rfl ?_
        refine ol_call rfl rfl cb49 rfl (fun w1 hb1 hs1 hB1 => Calls.mono (track_plus _ _ _ _ (by omega)) ?_)
        rintro e w2 ⟨rfl, hb2⟩
        refine After.below rfl hb1 hs1 hB1 hb2 ?_
        clear hb2 hB1 hs1 hb1 w2 w1
        refine ol_alloc 15 z112 rfl fun b15 => ?_
        refine ol_store (id := 15) rfl rfl rfl rfl sz112 rfl rfl (by first | decide | exact Nat.zero_lt_succ _ | simp) ?_
        refine ol_nil (to_k0 (fun _ _ h => h) (hK28 _ _ _ _ _ ?_))
        clear hK28
        refine wp_seq' fun K29 hK29 => ?_
        refine wp_reg ?_
        refine ol_r (r_lda (id := 15) (n := 2) rfl rfl rfl ag112) rfl ?_
        refine ol_r (r_lda (id := 8) (n := 2) rfl rfl rfl ag112) rfl ?_
        refine ol_call rfl rfl cb50 rfl (fun w1 hb1 hs1 hB1 => Calls.mono (track_better (_, _) (_, _) _) ?_)
        rintro e w2 ⟨rfl, hb2⟩
        refine After.below rfl hb1 hs1 hB1 hb2 ?_
        clear hb2 hB1 hs1 hb1 w2 w1
        refine ol_nil (to_k0 (fun _ _ h => h) (hK29 _ _ _ _ _ ?_))
        clear hK29
        refine wp_cond' rfl (fun hc80 => ?_) (fun hc80 => ?_)
        ·refine wp_reg ?_
         refine ol_r (r_lda (id := 15) (n := 2) rfl rfl rfl ag112) rfl ?_
         refine ol_store (id := 8) rfl rfl rfl rfl sz112 rfl rfl (by first | decide | exact Nat.zero_lt_succ _ | simp) ?_
         refine ol_nil (to_k0 (fun _ _ h => h) (hK27 _ _ _ _ _ ?_))
         clear hK27
         refine wp_seq' fun K30 hK30 => ?_
         refine wp_reg ?_
         refine ol_r (r_lda (id := 14) (n := 2) rfl rfl rfl ag112) rfl ?_
         refine ol_r (r_fa (o' := 3) rfl fl70_3 rfl) rfl ?_
         refine ol_r (r_ld (id := 12) rfl rfl rfl sc3) rfl ?_
         refine ol_call rfl rfl cb49 rfl (fun w1 hb1 hs1 hB1 => Calls.mono (track_plus _ _ _ _ (by omega)) ?_)
         rintro e w2 ⟨rfl, hb2⟩
         refine After.below rfl hb1 hs1 hB1 hb2 ?_
         clear hb2 hB1 hs1 hb1 w2 w1
         refine ol_alloc 16 z112 rfl fun b16 => ?_
         refine ol_store (id := 16) rfl rfl rfl rfl sz112 rfl rfl (by first | decide | exact Nat.zero_lt_succ _ | simp) ?_
         refine ol_nil (to_k0 (fun _ _ h => h) (hK30 _ _ _ _ _ ?_))
         clear hK30
         refine wp_seq' fun K31 hK31 => ?_
         refine wp_reg ?_
         refine ol_r (r_lda (id := 16) (n := 2) rfl rfl rfl ag112) rfl ?_
         refine ol_r (r_lda (id := 9) (n := 2) rfl rfl rfl ag112) rfl ?_
         refine ol_call rfl rfl cb50 rfl (fun w1 hb1 hs1 hB1 => Calls.mono (track_better (_, _) (_, _) _) ?_)
         rintro e w2 ⟨rfl, hb2⟩
         refine After.below rfl hb1 hs1 hB1 hb2 ?_
         clear hb2 hB1 hs1 hb1 w2 w1
         refine ol_nil (to_k0 (fun _ _ h => h) (hK31 _ _ _ _ _ ?_))
         clear hK31
         refine wp_cond' rfl (fun hc88 => ?_) (fun hc88 => ?_)
         ·refine wp_reg ?_
          refine ol_r (r_lda (id := 16) (n := 2) rfl rfl rfl ag112) rfl ?_
          refine ol_store (id := 9) rfl rfl rfl rfl sz112 rfl rfl (by first | decide | exact Nat.zero_lt_succ _ | simp) ?_
          refine ol_nil (to_k0 (fun _ _ h => h) (hK20 _ _ _ _ _ ?_))
          clear hK20
          refine wp_reg ?_
          refine ol_r (r_add rfl rfl (by omega)) rfl ?_
          refine ol_r (r_move rfl) rfl ?_
          refine ol_nil (to_k0 (fun _ _ h => h) (hK17 ((k + 1, ⟨(_, _), (_, _), (_, _)⟩)) _ _ ?_ ?_ (sub_cons rfl sub_nil) (sub_cons rfl (sub_cons rfl (sub_cons rfl (sub_cons rfl (sub_cons rfl (sub_cons rfl (sub_cons rfl (sub_cons rfl (sub_cons rfl (sub_cons rfl sub_nil)))))))))) (by exact (subH_blk rfl (sub_cons rfl (sub_cons rfl sub_nil)) (subH_blk rfl (sub_cons rfl (sub_cons rfl sub_nil)) (subH_blk rfl (sub_cons rfl (sub_cons rfl sub_nil)) subH_nil)))) (subH_same rfl (subH_same rfl subH_nil))))
          ·try dsimp only
           refine ⟨by omega, ?_⟩
           rw [clmK_succ hx50, ← hc]
           refine clm_eq ?_ ?_ ?_ <;> first | exact (pickB_t hc63).symm | exact (pickB_n hc63).symm | exact (pickB_t hc80).symm | exact (pickB_n hc80).symm | exact (pickB_t hc88).symm | exact (pickB_n hc88).symm
          ·try dsimp only
           omega
         ·refine wp_skip' (to_k0 (fun _ _ h => h) (hK20 _ _ _ _ _ ?_))
          clear hK20
          refine wp_reg ?_
          refine ol_r (r_add rfl rfl (by omega)) rfl ?_
          refine ol_r (r_move rfl) rfl ?_
          refine ol_nil (to_k0 (fun _ _ h => h) (hK17 ((k + 1, ⟨(_, _), (_, _), (_, _)⟩)) _ _ ?_ ?_ (sub_cons rfl sub_nil) (sub_cons rfl (sub_cons rfl (sub_cons rfl (sub_cons rfl (sub_cons rfl (sub_cons rfl (sub_cons rfl (sub_cons rfl (sub_cons rfl (sub_cons rfl sub_nil)))))))))) (by exact (subH_blk rfl (sub_cons rfl (sub_cons rfl sub_nil)) (subH_blk rfl (sub_cons rfl (sub_cons rfl sub_nil)) (subH_blk rfl (sub_cons rfl (sub_cons rfl sub_nil)) subH_nil)))) (subH_same rfl (subH_same rfl subH_nil))))
          ·try dsimp only
           refine ⟨by omega, ?_⟩
           rw [clmK_succ hx50, ← hc]
           refine clm_eq ?_ ?_ ?_ <;> first | exact (pickB_t hc63).symm | exact (pickB_n hc63).symm | exact (pickB_t hc80).symm | exact (pickB_n hc80).symm | exact (pickB_t hc88).symm | exact (pickB_n hc88).symm
          ·try dsimp only
           omega
        ·refine wp_skip' (to_k0 (fun _ _ h => h) (hK27 _ _ _ _ _ ?_))
         clear hK27
         refine wp_seq' fun K32 hK32 => ?_
         refine wp_reg ?_
         refine ol_r (r_lda (id := 14) (n := 2) rfl rfl rfl ag112) rfl ?_
         refine ol_r (r_fa (o' := 3) rfl fl70_3 rfl) rfl ?_
         refine ol_r (r_ld (id := 12) rfl rfl rfl sc3) rfl ?_
         refine ol_call rfl rfl cb49 rfl (fun w1 hb1 hs1 hB1 => Calls.mono (track_plus _ _ _ _ (by omega)) ?_)
         rintro e w2 ⟨rfl, hb2⟩
         refine After.below rfl hb1 hs1 hB1 hb2 ?_
         clear hb2 hB1 hs1 hb1 w2 w1
         refine ol_alloc 16 z112 rfl fun b16 => ?_
         refine ol_store (id := 16) rfl rfl rfl rfl sz112 rfl rfl (by first | decide | exact Nat.zero_lt_succ _ | simp) ?_
         refine ol_nil (to_k0 (fun _ _ h => h) (hK32 _ _ _ _ _ ?_))
         clear hK32
         refine wp_seq' fun K33 hK33 => ?_
         refine wp_reg ?_
         refine ol_r (r_lda (id := 16) (n := 2) rfl rfl rfl ag112) rfl ?_
         refine ol_r (r_lda (id := 9) (n := 2) rfl rfl rfl ag112) rfl ?_
         refine ol_call rfl rfl cb50 rfl (fun w1 hb1 hs1 hB1 => Calls.mono (track_better (_, _) (_, _) _) ?_)
         rintro e w2 ⟨rfl, hb2⟩
         refine After.below rfl hb1 hs1 hB1 hb2 ?_
         clear hb2 hB1 hs1 hb1 w2 w1
         refine ol_nil (to_k0 (fun _ _ h => h) (hK33 _ _ _ _ _ ?_))
         clear hK33
         refine wp_cond' rfl (fun hc88 => ?_) (fun hc88 => ?_)
         ·refine wp_reg ?_
          refine ol_r (r_lda (id := 16) (n := 2) rfl rfl rfl ag112) rfl ?_
          refine ol_store (id := 9) rfl rfl rfl rfl sz112 rfl rfl (by first | decide | exact Nat.zero_lt_succ _ | simp) ?_
          refine ol_nil (to_k0 (fun _ _ h => h) (hK20 _ _ _ _ _ ?_))
          clear hK20
          refine wp_reg ?_
          refine ol_r (r_add rfl rfl (by omega)) rfl ?_
          refine ol_r (r_move rfl) rfl ?_
          refine ol_nil (to_k0 (fun _ _ h => h) (hK17 ((k + 1, ⟨(_, _), (_, _), (_, _)⟩)) _ _ ?_ ?_ (sub_cons rfl sub_nil) (sub_cons rfl (sub_cons rfl (sub_cons rfl (sub_cons rfl (sub_cons rfl (sub_cons rfl (sub_cons rfl (sub_cons rfl (sub_cons rfl (sub_cons rfl sub_nil)))))))))) (by exact (subH_blk rfl (sub_cons rfl (sub_cons rfl sub_nil)) (subH_blk rfl (sub_cons rfl (sub_cons rfl sub_nil)) (subH_blk rfl (sub_cons rfl (sub_cons rfl sub_nil)) subH_nil)))) (subH_same rfl (subH_same rfl subH_nil))))
          ·try dsimp only
           refine ⟨by omega, ?_⟩
           rw [clmK_succ hx50, ← hc]
           refine clm_eq ?_ ?_ ?_ <;> first | exact (pickB_t hc63).symm | exact (pickB_n hc63).symm | exact (pickB_t hc80).symm | exact (pickB_n hc80).symm | exact (pickB_t hc88).symm | exact (pickB_n hc88).symm
          ·try dsimp only
           omega
         ·refine wp_skip' (to_k0 (fun _ _ h => h) (hK20 _ _ _ _ _ ?_))
          clear hK20
          refine wp_reg ?_
          refine ol_r (r_add rfl rfl (by omega)) rfl ?_
          refine ol_r (r_move rfl) rfl ?_
          refine ol_nil (to_k0 (fun _ _ h => h) (hK17 ((k + 1, ⟨(_, _), (_, _), (_, _)⟩)) _ _ ?_ ?_ (sub_cons rfl sub_nil) (sub_cons rfl (sub_cons rfl (sub_cons rfl (sub_cons rfl (sub_cons rfl (sub_cons rfl (sub_cons rfl (sub_cons rfl (sub_cons rfl (sub_cons rfl sub_nil)))))))))) (by exact (subH_blk rfl (sub_cons rfl (sub_cons rfl sub_nil)) (subH_blk rfl (sub_cons rfl (sub_cons rfl sub_nil)) (subH_blk rfl (sub_cons rfl (sub_cons rfl sub_nil)) subH_nil)))) (subH_same rfl (subH_same rfl subH_nil))))
          ·try dsimp only
           refine ⟨by omega, ?_⟩
           rw [clmK_succ hx50, ← hc]
           refine clm_eq ?_ ?_ ?_ <;> first | exact (pickB_t hc63).symm | exact (pickB_n hc63).symm | exact (pickB_t hc80).symm | exact (pickB_n hc80).symm | exact (pickB_t hc88).symm | exact (pickB_n hc88).symm
          ·try dsimp only
           omega
       ·refine wp_skip' (to_k0 (fun _ _ h => h) (hK23 _ _ _ _ _ ?_))
        clear hK23
        refine wp_seq' fun K34 hK34 => ?_
        refine wp_reg ?_
        refine ol_r (r_fa (o' := 0) rfl fl112_0 rfl) rfl ?_
        refine ol_r (r_ld (id := 10) rfl rfl rfl sc3) rfl ?_
        refine ol_r (r_move rfl) rfl ?_
        refine ol_r (r_sub rfl rfl (by omega)) rfl ?_
        refine ol_r (r_fa (o' := 1) rfl fl112_1 rfl) rfl ?_
        refine ol_r (r_ld (id := 10) rfl rfl rfl sc3) rfl ?_
        refine ol_r (r_add rfl rfl (by omega)) rfl ?_
        refine ol_r (r_build rfl (fun _ => bd112_0_1 _ _ _)) rfl ?_
        refine ol_alloc 14 z112 rfl fun b14 => ?_
        refine ol_store (id := 14) rfl rfl rfl rfl sz112 rfl rfl (by first | decide | exact Nat.zero_lt_succ _ | simp) ?_
        refine ol_nil (to_k0 (fun _ _ h => h) (hK34 _ _ _ _ _ ?_))
        clear hK34
        refine wp_seq' fun K35 hK35 => ?_
        refine wp_seq' fun K36 hK36 => ?_
        refine wp_reg ?_
        refine ol_r (r_lda (id := 14) (n := 2) rfl rfl rfl ag112) rfl ?_
        refine ol_r (r_fa (o' := 3) rfl fl70_3 rfl) rfl ?_
        refine ol_r (r_ld (id := 12) rfl rfl rfl sc3) rfl ?_
        refine ol_r (r_neg rfl (by omega)) rfl ?_
        refine ol_call rfl rfl cb49 rfl (fun w1 hb1 hs1 hB1 => Calls.mono (track_plus _ _ _ _ (by omega)) ?_)
        rintro e w2 ⟨rfl, hb2⟩
        refine After.below rfl hb1 hs1 hB1 hb2 ?_
        clear hb2 hB1 hs1 hb1 w2 w1
        refine ol_alloc 15 z112 rfl fun b15 => ?_
        refine ol_store (id := 15) rfl rfl rfl rfl sz112 rfl rfl (by first | decide | exact Nat.zero_lt_succ _ | simp) ?_
        refine ol_nil (to_k0 (fun _ _ h => h) (hK36 _ _ _ _ _ ?_))
        clear hK36
        refine wp_seq' fun K37 hK37 => ?_
        refine wp_reg ?_
        refine ol_r (r_lda (id := 15) (n := 2) rfl rfl rfl ag112) rfl ?_
        refine ol_r (r_lda (id := 8) (n := 2) rfl rfl rfl ag112) rfl ?_
        refine ol_call rfl rfl cb50 rfl (fun w1 hb1 hs1 hB1 => Calls.mono (track_better (_, _) (_, _) _) ?_)
        rintro e w2 ⟨rfl, hb2⟩
        refine After.below rfl hb1 hs1 hB1 hb2 ?_
        clear hb2 hB1 hs1 hb1 w2 w1
        refine ol_nil (to_k0 (fun _ _ h => h) (hK37 _ _ _ _ _ ?_))
        clear hK37
        refine wp_cond' rfl (fun hc80 => ?_) (fun hc80 => ?_)
        ·refine wp_reg ?_
         refine ol_r (r_lda (id := 15) (n := 2) rfl rfl rfl ag112) rfl ?_
         refine ol_store (id := 8) rfl rfl rfl rfl sz112 rfl rfl (by first | decide | exact Nat.zero_lt_succ _ | simp) ?_
         refine ol_nil (to_k0 (fun _ _ h => h) (hK35 _ _ _ _ _ ?_))
         clear hK35
         refine wp_seq' fun K38 hK38 => ?_
         refine wp_reg ?_
         refine ol_r (r_lda (id := 14) (n := 2) rfl rfl rfl ag112) rfl ?_
         refine ol_r (r_fa (o' := 3) rfl fl70_3 rfl) rfl ?_
         refine ol_r (r_ld (id := 12) rfl rfl rfl sc3) rfl ?_
         refine ol_call rfl rfl cb49 rfl (fun w1 hb1 hs1 hB1 => Calls.mono (track_plus _ _ _ _ (by omega)) ?_)
         rintro e w2 ⟨rfl, hb2⟩
         refine After.below rfl hb1 hs1 hB1 hb2 ?_
         clear hb2 hB1 hs1 hb1 w2 w1
         refine ol_alloc 16 z112 rfl fun b16 => ?_
         refine ol_store (id := 16) rfl rfl rfl rfl sz112 rfl rfl (by first | decide | exact Nat.zero_lt_succ _ | simp) ?_
         refine ol_nil (to_k0 (fun _ _ h => h) (hK38 _ _ _ _ _ ?_))
         clear hK38
         refine wp_seq' fun K39 hK39 => ?_
         refine wp_reg ?_
         refine ol_r (r_lda (id := 16) (n := 2) rfl rfl rfl ag112) rfl ?_
         refine ol_r (r_lda (id := 9) (n := 2) rfl rfl rfl ag112) rfl ?_
         refine ol_call rfl rfl cb50 rfl (fun w1 hb1 hs1 hB1 => Calls.mono (track_better (_, _) (_, _) _) ?_)
         rintro e w2 ⟨rfl, hb2⟩
         refine After.below rfl hb1 hs1 hB1 hb2 ?_
         clear hb2 hB1 hs1 hb1 w2 w1
         refine ol_nil (to_k0 (fun _ _ h => h) (hK39 _ _ _ _ _ ?_))
         clear hK39
         refine wp_cond' rfl (fun hc88 => ?_) (fun hc88 => ?_)
         ·refine wp_reg ?_
          refine ol_r (r_lda (id := 16) (n := 2) rfl rfl rfl ag112) rfl ?_
          refine ol_store (id := 9) rfl rfl rfl rfl sz112 rfl rfl (by first | decide | exact Nat.zero_lt_succ _ | simp) ?_
          refine ol_nil (to_k0 (fun _ _ h => h) (hK20 _ _ _ _ _ ?_))
          clear hK20
          refine wp_reg ?_
          refine ol_r (r_add rfl rfl (by omega)) rfl ?_
          refine ol_r (r_move rfl) rfl ?_
          refine ol_nil (to_k0 (fun _ _ h => h) (hK17 ((k + 1, ⟨(_, _), (_, _), (_, _)⟩)) _ _ ?_ ?_ (sub_cons rfl sub_nil) (sub_cons rfl (sub_cons rfl (sub_cons rfl (sub_cons rfl (sub_cons rfl (sub_cons rfl (sub_cons rfl (sub_cons rfl (sub_cons rfl (sub_cons rfl sub_nil)))))))))) (by exact (subH_blk rfl (sub_cons rfl (sub_cons rfl sub_nil)) (subH_blk rfl (sub_cons rfl (sub_cons rfl sub_nil)) (subH_blk rfl (sub_cons rfl (sub_cons rfl sub_nil)) subH_nil)))) (subH_same rfl (subH_same rfl subH_nil))))
          ·try dsimp only
           refine ⟨by omega, ?_⟩
           rw [clmK_succ hx50, ← hc]
           refine clm_eq ?_ ?_ ?_ <;> first | exact (pickB_t hc63).symm | exact (pickB_n hc63).symm | exact (pickB_t hc80).symm | exact (pickB_n hc80).symm | exact (pickB_t hc88).symm | exact (pickB_n hc88).symm
          ·try dsimp only
           omega
         ·refine wp_skip' (to_k0 (fun _ _ h => h) (hK20 _ _ _ _ _ ?_))
          clear hK20
          refine wp_reg ?_
          refine ol_r (r_add rfl rfl (by omega)) rfl ?_
          refine ol_r (r_move rfl) rfl ?_
          refine ol_nil (to_k0 (fun _ _ h => h) (hK17 ((k + 1, ⟨(_, _), (_, _), (_, _)⟩)) _ _ ?_ ?_ (sub_cons rfl sub_nil) (sub_cons rfl (sub_cons rfl (sub_cons rfl (sub_cons rfl (sub_cons rfl (sub_cons rfl (sub_cons rfl (sub_cons rfl (sub_cons rfl (sub_cons rfl sub_nil)))))))))) (by exact (subH_blk rfl (sub_cons rfl (sub_cons rfl sub_nil)) (subH_blk rfl (sub_cons rfl (sub_cons rfl sub_nil)) (subH_blk rfl (sub_cons rfl (sub_cons rfl sub_nil)) subH_nil)))) (subH_same rfl (subH_same rfl subH_nil))))
          ·try dsimp only
           refine ⟨by omega, ?_⟩
           rw [clmK_succ hx50, ← hc]
           refine clm_eq ?_ ?_ ?_ <;> first | exact (pickB_t hc63).symm | exact (pickB_n hc63).symm | exact (pickB_t hc80).symm | exact (pickB_n hc80).symm | exact (pickB_t hc88).symm | exact (pickB_n hc88).symm
          ·try dsimp only
           omega
        ·refine wp_skip' (to_k0 (fun _ _ h => h) (hK35 _ _ _ _ _ ?_))
         clear hK35
         refine wp_seq' fun K40 hK40 => ?_
         refine wp_reg ?_
         refine ol_r (r_lda (id := 14) (n := 2) rfl rfl rfl ag112) rfl ?_
         refine ol_r (r_fa (o' := 3) rfl fl70_3 rfl) rfl ?_
         refine ol_r (r_ld (id := 12) rfl rfl rfl sc3) rfl ?_
         refine ol_call rfl rfl cb49 rfl (fun w1 hb1 hs1 hB1 => Calls.mono (track_plus _ _ _ _ (by omega)) ?_)
         rintro e w2 ⟨rfl, hb2⟩
         refine After.below rfl hb1 hs1 hB1 hb2 ?_
         clear hb2 hB1 hs1 hb1 w2 w1
         refine ol_alloc 16 z112 rfl fun b16 => ?_
         refine ol_store (id := 16) rfl rfl rfl rfl sz112 rfl rfl (by first | decide | exact Nat.zero_lt_succ _ | simp) ?_
         refine ol_nil (to_k0 (fun _ _ h => h) (hK40 _ _ _ _ _ ?_))
         clear hK40
         refine wp_seq' fun K41 hK41 => ?_
         refine wp_reg ?_
         refine ol_r (r_lda (id := 16) (n := 2) rfl rfl rfl ag112) rfl ?_
         refine ol_r (r_lda (id := 9) (n := 2) rfl rfl rfl ag112) rfl ?_
         refine ol_call rfl rfl cb50 rfl (fun w1 hb1 hs1 hB1 => Calls.mono (track_better (_, _) (_, _) _) ?_)
         rintro e w2 ⟨rfl, hb2⟩
         refine After.below rfl hb1 hs1 hB1 hb2 ?_
         clear hb2 hB1 hs1 hb1 w2 w1
         refine ol_nil (to_k0 (fun _ _ h => h) (hK41 _ _ _ _ _ ?_))
         clear hK41
         refine wp_cond' rfl (fun hc88 => ?_) (fun hc88 => ?_)
         ·refine wp_reg ?_
          refine ol_r (r_lda (id := 16) (n := 2) rfl rfl rfl ag112) rfl ?_
          refine ol_store (id := 9) rfl rfl rfl rfl sz112 rfl rfl (by first | decide | exact Nat.zero_lt_succ _ | simp) ?_
          refine ol_nil (to_k0 (fun _ _ h => h) (hK20 _ _ _ _ _ ?_))
          clear hK20
          refine wp_reg ?_
          refine ol_r (r_add rfl rfl (by omega)) rfl ?_
          refine ol_r (r_move rfl) rfl ?_
          refine ol_nil (to_k0 (fun _ _ h => h) (hK17 ((k + 1, ⟨(_, _), (_, _), (_, _)⟩)) _ _ ?_ ?_ (sub_cons rfl sub_nil) (sub_cons rfl (sub_cons rfl (sub_cons rfl (sub_cons rfl (sub_cons rfl (sub_cons rfl (sub_cons rfl (sub_cons rfl (sub_cons rfl (sub_cons rfl sub_nil)))))))))) (by exact (subH_blk rfl (sub_cons rfl (sub_cons rfl sub_nil)) (subH_blk rfl (sub_cons rfl (sub_cons rfl sub_nil)) (subH_blk rfl (sub_cons rfl (sub_cons rfl sub_nil)) subH_nil)))) (subH_same rfl (subH_same rfl subH_nil))))
          ·try dsimp only
           refine ⟨by omega, ?_⟩
           rw [clmK_succ hx50, ← hc]
           refine clm_eq ?_ ?_ ?_ <;> first | exact (pickB_t hc63).symm | exact (pickB_n hc63).symm | exact (pickB_t hc80).symm | exact (pickB_n hc80).symm | exact (pickB_t hc88).symm | exact (pickB_n hc88).symm
          ·try dsimp only
           omega
         ·refine wp_skip' (to_k0 (fun _ _ h => h) (hK20 _ _ _ _ _ ?_))
          clear hK20
          refine wp_reg ?_
          refine ol_r (r_add rfl rfl (by omega)) rfl ?_
          refine ol_r (r_move rfl) rfl ?_
          refine ol_nil (to_k0 (fun _ _ h => h) (hK17 ((k + 1, ⟨(_, _), (_, _), (_, _)⟩)) _ _ ?_ ?_ (sub_cons rfl sub_nil) (sub_cons rfl (sub_cons rfl (sub_cons rfl (sub_cons rfl (sub_cons rfl (sub_cons rfl (sub_cons rfl (sub_cons rfl (sub_cons rfl (sub_cons rfl sub_nil)))))))))) (by exact (subH_blk rfl (sub_cons rfl (sub_cons rfl sub_nil)) (subH_blk rfl (sub_cons rfl (sub_cons rfl sub_nil)) (subH_blk rfl (sub_cons rfl (sub_cons rfl sub_nil)) subH_nil)))) (subH_same rfl (subH_same rfl subH_nil))))
          ·try dsimp only
           refine ⟨by omega, ?_⟩
           rw [clmK_succ hx50, ← hc]
           refine clm_eq ?_ ?_ ?_ <;> first | exact (pickB_t hc63).symm | exact (pickB_n hc63).symm | exact (pickB_t hc80).symm | exact (pickB_n hc80).symm | exact (pickB_t hc88).symm | exact (pickB_n hc88).symm
          ·try dsimp only
           omega
      ·refine wp_exit' (to_k0 (fun _ _ h => h) (hK15 _ _ _ _ _ ?_))
       clear hK15
       refine wp_seq' fun K42 hK42 => ?_
       refine wp_reg ?_
       refine ol_r (r_fa (o' := 0) rfl fl112_0 rfl) rfl ?_
       refine ol_r (r_ld (id := 10) rfl rfl rfl sc3) rfl ?_
       refine ol_r (r_move rfl) rfl ?_
       refine ol_r (r_fa (o' := 1) rfl fl112_1 rfl) rfl ?_
       refine ol_r (r_ld (id := 10) rfl rfl rfl sc3) rfl ?_
       have qm := mul_bd (a := th) (b := oc) (A := 200000) (B := 8000100000) (by omega) (by omega) (by omega) (by omega)
       refine ol_r (r_mul rfl rfl (by omega)) rfl ?_
       refine ol_r (r_add rfl rfl (by omega)) rfl ?_
       refine ol_r (r_assign rfl) rfl ?_
       refine ol_nil (to_k0 (fun _ _ h => h) (hK42 _ _ _ _ _ ?_))
       clear hK42
       refine wp_seq' fun K43 hK43 => ?_
       refine wp_reg ?_
       refine ol_r (r_fa (o' := 3) rfl fl57_3 rfl) rfl ?_
       refine ol_r (r_ld (id := 2) rfl rfl rfl sc53) rfl ?_
       refine ol_r (r_fa (o' := 3) rfl fl57_3 rfl) rfl ?_
       refine ol_r (r_ld (id := 2) rfl rfl rfl sc53) rfl ?_
       refine ol_r (r_len rfl sl53) rfl ?_
       refine ol_r (r_sub rfl rfl (by omega)) rfl ?_
       refine ol_ixr hA.s rfl rfl sl53 (by omega) rfl fun x104 hx104 => ?_
       try simp only [Int.toNat_natCast] at hx104
       refine ol_r (r_faw rfl (ix_some hA.s (by omega)) fl70_3) rfl ?_
       refine ol_r (r_ldw rfl (fun w1 hb1 hs1 hB1 => Rd.loadsF (o := 3) hA.s sc3 hx104 hb1 rfl)) rfl ?_
       refine ol_r (r_move rfl) rfl ?_
       have hz1 := hok.hgt (List.mem_of_getElem? hx104)
       refine ol_r (r_sub rfl rfl (by omega)) rfl ?_
       refine ol_r (r_assign rfl) rfl ?_
       refine ol_nil (to_k0 (fun _ _ h => h) (hK43 _ _ _ _ _ ?_))
       clear hK43
       refine wp_seq' fun K44 hK44 => ?_
       refine wp_reg ?_
       refine ol_r (r_move rfl) rfl ?_
       refine ol_r (r_move rfl) rfl ?_
       refine ol_r (r_add rfl rfl (by omega)) rfl ?_
       first | refine ol_r (r_quo rfl rfl (by omega)) rfl ?_ | refine ol_r (r_tquo rfl rfl (by omega)) rfl ?_
       refine ol_r (r_move rfl) rfl ?_
       refine ol_r (r_move rfl) rfl ?_
       refine ol_r (r_sub rfl rfl (by omega)) rfl ?_
       first | refine ol_r (r_quo rfl rfl (by omega)) rfl ?_ | refine ol_r (r_tquo rfl rfl (by omega)) rfl ?_
       refine ol_r (r_fa (o' := 1) rfl fl112_1 rfl) rfl ?_
       refine ol_r (r_ld (id := 10) rfl rfl rfl sc3) rfl ?_
       refine ol_r (r_build rfl (fun _ => bd79_0_1_2 _ _ _ _)) rfl ?_
       refine ol_store (id := 4) rfl rfl rfl rfl sz79 rfl rfl (by first | decide | exact Nat.zero_lt_succ _ | simp) ?_
       refine ol_r (r_assign rfl) rfl ?_
       refine ol_nil (to_k0 (fun _ _ h => h) (hK44 _ _ _ _ _ ?_))
       clear hK44
       refine hQ.ret (rvs2 (rv_c (id := 4) (n := 3) rfl rfl ag79 rfl) (rv_t rfl)) (fun _ _ h => h) fun w hb hs hB hkd => ?_
       first
         | (have h := climbR_z (Decidable.not_not.1 hc22) (th := th) hth (by show ¬A.ss.length < 2; omega)
            have hk' : k = A.ss.length - 1 := by omega
            have hz2 : zAt A.ss (A.ss.length - 1) = x104.z := by refine zAt_eq ?_; rw [← hx104]; congr 1; omega
            have hz3 : zAt A.ss 0 = x36.z := zAt_eq hx36
            refine ⟨?_, hb⟩
            rw [h]
            unfold zigR
            rw [hk'] at hc
            simp only [show A.d.ss = A.ss from rfl, hz2, hz3, ← hc])
end Go.Proofs.Ytfbmkepogcimlaa

/-
  Ways: program and reference.
-/



namespace Go.Proofs.Ytfbmkepogcimlaa
open Go Go.RowKit Hx
set_option linter.unusedVariables false
set_option linter.unusedSimpArgs false
set_option maxRecDepth 8000
theorem track_ways (A : ActV) (w : World) (hA : A.Ok w.heap.size w) (hok : SmpOk A.start A.ss) :
    Calls Try.prog 84 #[.agg #[.string A.name, .int .i64 A.sport, .int .i64 A.start, .slice A.sa A.sn A.sc, .slice A.la A.ln A.lc, .slice A.ta A.tn A.tc]] w fun e w' => ∃ b m k, e = .returned (.slice b m k) ∧ Fresh encI 3 w w' b m k (wayL A.ss) := by
  have hsn := hA.s.len
  have hsf := hA.s.fit
  have hlen := stepsL_len A.ss
  have hl20 := hok.len
  refine enterQ (N := 29) (C := fun _ => True) (H := []) (B := w.heap.size) (args := [_]) Try.func84 rfl rfl rfl (Nat.le_refl _) (Sat.nil _ _) fun Q hQ => ?_
  refine wp_seq' fun K1 hK1 => ?_
  refine wp_reg ?_
  refine ol_box 1 rfl rfl rfl fun b1 => ?_
  refine ol_r (r_assign rfl) rfl ?_
  refine ol_nil (to_k0 (fun _ _ h => h) (hK1 _ _ _ _ _ ?_))
  clear hK1
  refine wp_seq' fun K2 hK2 => ?_
  refine wp_seq' fun K3 hK3 => ?_
  refine wp_reg ?_
  refine ol_r (r_fa (o' := 3) rfl fl57_3 rfl) rfl ?_
  refine ol_r (r_ld (id := 1) rfl rfl rfl sc53) rfl ?_
  refine ol_r (r_len rfl sl53) rfl ?_
  refine ol_r (r_eql rfl rfl) rfl ?_
  refine ol_nil (to_k0 (fun _ _ h => h) (hK3 _ _ _ _ _ ?_))
  clear hK3
  refine wp_condD rfl (fun hc9 => ?_) (fun hc9 => ?_)
  ·refine wp_seq' fun K4 hK4 => ?_
   refine wp_reg ?_
   refine ol_r (r_assign rfl) rfl ?_
   refine ol_nil (to_k0 (fun _ _ h => h) (hK4 _ _ _ _ _ ?_))
   clear hK4
   refine hQ.ret (rvs1 (rv_t rfl)) (fun _ _ h => h) fun w hb hs hB hkd => ?_
   first
     | (have h0 : A.ss = [] := List.length_eq_zero_iff.1 (by omega)
        have h1 : wayL A.ss = [] := by rw [h0]; rfl
        exact ⟨_, _, _, rfl, by rw [h1]; exact Fresh.nil hb⟩)
  ·refine wp_skip' (to_k0 (fun _ _ h => h) (hK2 _ _ _ _ _ ?_))
   clear hK2
   refine wp_seq' fun K5 hK5 => ?_
   refine wp_reg ?_
   refine ol_bs1 10 rfl rfl rw61 rfl rfl rfl fun a10 => ?_
   refine ol_alloc 3 z61 rfl fun b3 => ?_
   refine ol_store (id := 3) rfl rfl rfl rfl sz61 rfl rfl (by first | decide | exact Nat.zero_lt_succ _ | simp) ?_
   refine ol_nil (to_k0 (fun _ _ h => h) (hK5 _ _ _ _ _ ?_))
   clear hK5
   refine wp_seq' fun K6 hK6 => ?_
   refine wp_seq' fun K7 hK7 => ?_
   refine wp_reg ?_
   refine ol_r (r_lda (id := 1) (n := 6) rfl rfl rfl ag57) rfl ?_
   refine ol_call rfl rfl cb100 rfl (fun w1 hb1 hs1 hB1 => ?_)
   refine Calls.mono (track_Steps A _ (hA.at hb1 hB1)) ?_
   rintro e w2 ⟨b0, T0, rfl, hb2, hs2⟩
   refine After.more rfl hb1 hs1 hB1 hb2 hs2 ?_
   clear hs2 hb2 hB1 hs1 hb1 w2 w1
   refine ol_nil (to_k0 (fun _ _ h => h) (hK7 _ _ _ _ _ ?_))
   clear hK7
   refine wp_block' ?_
   refine wp_rf (σ := Option Addr × Nat) (τ := Unit) (encs := fun x : SmpR × SmpR => [.agg #[.int .i64 x.1.at_, .int .i64 x.1.x, .int .i64 x.1.y, .int .i64 x.1.z, .int .i64 x.1.pulse, .int .i64 x.1.power, .int .i64 x.1.steps], .agg #[.int .i64 x.2.at_, .int .i64 x.2.x, .int .i64 x.2.y, .int .i64 x.2.z, .int .i64 x.2.pulse, .int .i64 x.2.power, .int .i64 x.2.steps]]) (zs := stepsL A.ss) rfl cb130 (steps_iter A _ b0 _ hA.s) (by rfl) (by rfl) (by rfl) (fun _ => rfl) (fun k s => k ≤ (stepsL A.ss).length) (fun k s => [(3, .blk b3 [(0, .slice s.1 (k + 1) s.2)] 61), (10, .row s.1 (k + 1) s.2 (encI.enc (runW A.ss (k + 1))) 3 1)]) [(1, _), (1001, _)] (fun t => False) (fun t => []) ((_, _)) ?_ (by exact (subH_blk rfl (sub_cons rfl sub_nil) (subH_row rfl (by (rw [runW_succ, wayN_zero]; rfl)) subH_nil))) (subH_same rfl (subH_same rfl subH_nil)) ?_ ?_ ?_ ?_
   ·try dsimp only
    omega
   ·intro k s W hI hbW hsW hBW
    exact ⟨hbW, ⟨_, hsW.one 1001 100 rfl (Ent.le_refl _)⟩, hBW⟩
   ·rintro k x ⟨oa, oc⟩ B0 W hx hI hbW hBW hB0
    have hxx := stepsL_inv hx
    have hp := hok.place (List.mem_of_getElem? hxx.1)
    have hq := hok.place (List.mem_of_getElem? hxx.2)
    have hlb := lenD_bd hp hq
    have hwb := wayN_bd hok k
    dsimp only at hI ⊢
    intro Ka8 hKa8
    simp only [alp]
    refine wp_seq' fun K9 hK9 => ?_
    refine wp_reg ?_
    refine ol_alloc 4 z70 rfl fun b4 => ?_
    refine ol_store (id := 4) rfl rfl rfl rfl sz70 rfl rfl (by first | decide | exact Nat.zero_lt_succ _ | simp) ?_
    refine ol_nil (to_k0 (fun _ _ h => h) (hK9 _ _ _ _ _ ?_))
    clear hK9
    refine wp_reg ?_
    refine ol_alloc 5 z70 rfl fun b5 => ?_
    refine ol_store (id := 5) rfl rfl rfl rfl sz70 rfl rfl (by first | decide | exact Nat.zero_lt_succ _ | simp) ?_
    refine ol_nil (to_k0 (fun _ _ h => h) (hKa8 _ _ fun Wb R hbw hBw hn hr => ?_))
    refine wp_block' ?_
    refine wp_rega [(999, [(1, _), (4, _), (5, _), (1001, _)]), (13, [(3, _)]), (12, [(10, _)])] (by kernel_rfl) ⟨.inr (subH_same rfl (subH_same rfl (subH_same rfl (subH_same rfl subH_nil)))), ⟨.inr (subH_same rfl subH_nil), ⟨.inr (subH_same rfl subH_nil), trivial⟩⟩⟩ ?_
    refine aq_r 0 13 rfl (by kernel_rfl) (by kernel_rfl) (by kernel_rfl) (.tail _ (.head _)) (by kernel_rfl) (by kernel_rfl) rfl (r_ld (id := 3) rfl rfl rfl sc61) ?_
    refine aq_r 1 13 rfl (by kernel_rfl) (by kernel_rfl) (by kernel_rfl) (.tail _ (.head _)) (by kernel_rfl) (by kernel_rfl) rfl (r_ld (id := 3) rfl rfl rfl sc61) ?_
    refine aq_r 2 13 rfl (by kernel_rfl) (by kernel_rfl) (by kernel_rfl) (.tail _ (.head _)) (by kernel_rfl) (by kernel_rfl) rfl (r_ld (id := 3) rfl rfl rfl sc61) ?_
    refine aq_r 3 999 rfl (by kernel_rfl) (by kernel_rfl) (by kernel_rfl) (.head _) (by kernel_rfl) (by kernel_rfl) rfl (r_len rfl sl61) ?_
    refine aq_r 4 999 rfl (by kernel_rfl) (by kernel_rfl) (by kernel_rfl) (.head _) (by kernel_rfl) (by kernel_rfl) rfl (r_sub rfl rfl (by omega)) ?_
    refine aq_r 7 999 rfl (by kernel_rfl) (by kernel_rfl) (by kernel_rfl) (.head _) (by kernel_rfl) (by kernel_rfl) rfl (r_lda (id := 4) (n := 7) rfl rfl rfl ag70) ?_
    refine aq_r 8 999 rfl (by kernel_rfl) (by kernel_rfl) (by kernel_rfl) (.head _) (by kernel_rfl) (by kernel_rfl) rfl (r_lda (id := 5) (n := 7) rfl rfl rfl ag70) ?_
    refine aq_two (i := 5) (j := 9) (by kernel_rfl) rfl rfl (fun K10 hK10 => ?_) (fun K10 hK10 => ?_)
    ·refine ol_ixo (id := 10) encI _ rfl rfl rfl rfl sl61 (by omega) rfl fun x20 hx20 => ?_
     try simp only [Int.toNat_natCast] at hx20
     try simp only [Int.toNat_natCast] at hx20
     refine ol_nil (to_k0 (fun _ _ h => h) (hK10 _ _ ⟨.inr (by repeat' first | exact subH_nil | refine subH_same rfl ?_ | (refine subH_blk rfl (by repeat' first | exact sub_nil | refine sub_cons rfl ?_) ?_)), ⟨.inr (by repeat' first | exact subH_nil | refine subH_same rfl ?_ | (refine subH_blk rfl (by repeat' first | exact sub_nil | refine sub_cons rfl ?_) ?_)), ⟨.inr (by repeat' first | exact subH_nil | refine subH_same rfl ?_ | (refine subH_blk rfl (by repeat' first | exact sub_nil | refine sub_cons rfl ?_) ?_)), trivial⟩⟩⟩ ?_))
     clear hK10
     refine aq_two (i := 6) (j := 9) (by kernel_rfl) rfl rfl (fun K11 hK11 => ?_) (fun K11 hK11 => ?_)
     ·refine ol_r (r_ldw rfl (fun w1 hb1 hs1 hB1 => show Loads _ _ _ _ (.int .i64 x20) from ld_own (id := 10) hs1 rfl rfl ty3 hx20)) rfl ?_
      refine ol_nil (to_k0 (fun _ _ h => h) (hK11 _ _ ⟨.inr (by repeat' first | exact subH_nil | refine subH_same rfl ?_ | (refine subH_blk rfl (by repeat' first | exact sub_nil | refine sub_cons rfl ?_) ?_)), ⟨.inr (by repeat' first | exact subH_nil | refine subH_same rfl ?_ | (refine subH_blk rfl (by repeat' first | exact sub_nil | refine sub_cons rfl ?_) ?_)), ⟨.inr (by repeat' first | exact subH_nil | refine subH_same rfl ?_ | (refine subH_blk rfl (by repeat' first | exact sub_nil | refine sub_cons rfl ?_) ?_)), trivial⟩⟩⟩ ?_))
      clear hK11
      refine aq_one (i := 9) (by kernel_rfl) rfl fun K12 hK12 => ?_
      refine ol_call rfl rfl cb120 rfl (fun w1 hb1 hs1 hB1 => Calls.mono (track_length x.1 x.2 _ hp hq) ?_)
      rintro e w2 ⟨rfl, hb2⟩
      refine After.below rfl hb1 hs1 hB1 hb2 ?_
      clear hb2 hB1 hs1 hb1 w2 w1
      refine ol_nil (to_k0 (fun _ _ h => h) (hK12 _ _ ⟨.inr (by repeat' first | exact subH_nil | refine subH_same rfl ?_ | (refine subH_blk rfl (by repeat' first | exact sub_nil | refine sub_cons rfl ?_) ?_)), ⟨.inr (by repeat' first | exact subH_nil | refine subH_same rfl ?_ | (refine subH_blk rfl (by repeat' first | exact sub_nil | refine sub_cons rfl ?_) ?_)), ⟨.inr (by repeat' first | exact subH_nil | refine subH_same rfl ?_ | (refine subH_blk rfl (by repeat' first | exact sub_nil | refine sub_cons rfl ?_) ?_)), trivial⟩⟩⟩ ?_))
      clear hK12
      have e19 : (((k + 1 : Nat) : Int) - 1).toNat = k := by omega
      rw [e19] at hx20
      have h20 := runW_get hx20
      subst h20
      refine aq_r 10 999 rfl (by kernel_rfl) (by kernel_rfl) (by kernel_rfl) (.head _) (by kernel_rfl) (by kernel_rfl) rfl (r_add rfl rfl (by omega)) ?_
      refine aq_one (i := 11) (by kernel_rfl) rfl fun K13 hK13 => ?_
      refine ol_bs1 26 rfl rfl rw61 rfl rfl rfl fun a26 => ?_
      refine ol_nil (to_k0 (fun _ _ h => h) (hK13 _ _ ⟨.inr (by repeat' first | exact subH_nil | refine subH_same rfl ?_ | (refine subH_blk rfl (by repeat' first | exact sub_nil | refine sub_cons rfl ?_) ?_)), ⟨.inr (by repeat' first | exact subH_nil | refine subH_same rfl ?_ | (refine subH_blk rfl (by repeat' first | exact sub_nil | refine sub_cons rfl ?_) ?_)), ⟨.inr (by repeat' first | exact subH_nil | refine subH_same rfl ?_ | (refine subH_blk rfl (by repeat' first | exact sub_nil | refine sub_cons rfl ?_) ?_)), trivial⟩⟩⟩ ?_))
      clear hK13
      refine aq_one (i := 12) (by kernel_rfl) rfl fun K14 hK14 => ?_
      refine ol_append1 (id := 10) (id2 := 26) rfl rfl rfl rfl rfl rw61 (by omega) rfl fun a27 c27 => ?_
      refine ol_nil (to_k0 (fun _ _ h => h) (hK14 _ _ ⟨.inr (by repeat' first | exact subH_nil | refine subH_same rfl ?_ | (refine subH_blk rfl (by repeat' first | exact sub_nil | refine sub_cons rfl ?_) ?_)), ⟨.inr (by repeat' first | exact subH_nil | refine subH_same rfl ?_ | (refine subH_blk rfl (by repeat' first | exact sub_nil | refine sub_cons rfl ?_) ?_)), ⟨.inl (by kernel_rfl), trivial⟩⟩⟩ ?_))
      clear hK14
      refine aq_one (i := 13) (by kernel_rfl) rfl fun K15 hK15 => ?_
      refine ol_store (id := 3) rfl rfl rfl rfl sz61 rfl rfl (by first | decide | exact Nat.zero_lt_succ _ | simp) ?_
      refine ol_nil (to_k0 (fun _ _ h => h) (hK15 _ _ ⟨.inr (by repeat' first | exact subH_nil | refine subH_same rfl ?_ | (refine subH_blk rfl (by repeat' first | exact sub_nil | refine sub_cons rfl ?_) ?_)), ⟨.inl (by kernel_rfl), ⟨.inl (by kernel_rfl), trivial⟩⟩⟩ ?_))
      clear hK15
      refine aq_done (by kernel_rfl) ?_
      refine (QP.of (hn ((_, _)) _ _ ?_ (by exact (subH_blk rfl (sub_cons rfl sub_nil) (subH_row rfl (by rw [runW_succ A.ss (k + 1), encI_snoc, wayN_succ hx]) subH_nil))) (subH_same rfl (subH_same rfl subH_nil))) (fun _ _ h => h))
      try dsimp only
      have := (List.getElem?_eq_some_iff.1 hx).1
      omega
     ·refine ol_call rfl rfl cb120 rfl (fun w1 hb1 hs1 hB1 => Calls.mono (track_length x.1 x.2 _ hp hq) ?_)
      rintro e w2 ⟨rfl, hb2⟩
      refine After.below rfl hb1 hs1 hB1 hb2 ?_
      clear hb2 hB1 hs1 hb1 w2 w1
      refine ol_nil (to_k0 (fun _ _ h => h) (hK11 _ _ ⟨.inr (by repeat' first | exact subH_nil | refine subH_same rfl ?_ | (refine subH_blk rfl (by repeat' first | exact sub_nil | refine sub_cons rfl ?_) ?_)), ⟨.inr (by repeat' first | exact subH_nil | refine subH_same rfl ?_ | (refine subH_blk rfl (by repeat' first | exact sub_nil | refine sub_cons rfl ?_) ?_)), ⟨.inr (by repeat' first | exact subH_nil | refine subH_same rfl ?_ | (refine subH_blk rfl (by repeat' first | exact sub_nil | refine sub_cons rfl ?_) ?_)), trivial⟩⟩⟩ ?_))
      clear hK11
      refine aq_one (i := 6) (by kernel_rfl) rfl fun K12 hK12 => ?_
      refine ol_r (r_ldw rfl (fun w1 hb1 hs1 hB1 => show Loads _ _ _ _ (.int .i64 x20) from ld_own (id := 10) hs1 rfl rfl ty3 hx20)) rfl ?_
      refine ol_nil (to_k0 (fun _ _ h => h) (hK12 _ _ ⟨.inr (by repeat' first | exact subH_nil | refine subH_same rfl ?_ | (refine subH_blk rfl (by repeat' first | exact sub_nil | refine sub_cons rfl ?_) ?_)), ⟨.inr (by repeat' first | exact subH_nil | refine subH_same rfl ?_ | (refine subH_blk rfl (by repeat' first | exact sub_nil | refine sub_cons rfl ?_) ?_)), ⟨.inr (by repeat' first | exact subH_nil | refine subH_same rfl ?_ | (refine subH_blk rfl (by repeat' first | exact sub_nil | refine sub_cons rfl ?_) ?_)), trivial⟩⟩⟩ ?_))
      clear hK12
      have e19 : (((k + 1 : Nat) : Int) - 1).toNat = k := by omega
      rw [e19] at hx20
      have h20 := runW_get hx20
      subst h20
      refine aq_r 10 999 rfl (by kernel_rfl) (by kernel_rfl) (by kernel_rfl) (.head _) (by kernel_rfl) (by kernel_rfl) rfl (r_add rfl rfl (by omega)) ?_
      refine aq_one (i := 11) (by kernel_rfl) rfl fun K13 hK13 => ?_
      refine ol_bs1 26 rfl rfl rw61 rfl rfl rfl fun a26 => ?_
      refine ol_nil (to_k0 (fun _ _ h => h) (hK13 _ _ ⟨.inr (by repeat' first | exact subH_nil | refine subH_same rfl ?_ | (refine subH_blk rfl (by repeat' first | exact sub_nil | refine sub_cons rfl ?_) ?_)), ⟨.inr (by repeat' first | exact subH_nil | refine subH_same rfl ?_ | (refine subH_blk rfl (by repeat' first | exact sub_nil | refine sub_cons rfl ?_) ?_)), ⟨.inr (by repeat' first | exact subH_nil | refine subH_same rfl ?_ | (refine subH_blk rfl (by repeat' first | exact sub_nil | refine sub_cons rfl ?_) ?_)), trivial⟩⟩⟩ ?_))
      clear hK13
      refine aq_one (i := 12) (by kernel_rfl) rfl fun K14 hK14 => ?_
      refine ol_append1 (id := 10) (id2 := 26) rfl rfl rfl rfl rfl rw61 (by omega) rfl fun a27 c27 => ?_
      refine ol_nil (to_k0 (fun _ _ h => h) (hK14 _ _ ⟨.inr (by repeat' first | exact subH_nil | refine subH_same rfl ?_ | (refine subH_blk rfl (by repeat' first | exact sub_nil | refine sub_cons rfl ?_) ?_)), ⟨.inr (by repeat' first | exact subH_nil | refine subH_same rfl ?_ | (refine subH_blk rfl (by repeat' first | exact sub_nil | refine sub_cons rfl ?_) ?_)), ⟨.inl (by kernel_rfl), trivial⟩⟩⟩ ?_))
      clear hK14
      refine aq_one (i := 13) (by kernel_rfl) rfl fun K15 hK15 => ?_
      refine ol_store (id := 3) rfl rfl rfl rfl sz61 rfl rfl (by first | decide | exact Nat.zero_lt_succ _ | simp) ?_
      refine ol_nil (to_k0 (fun _ _ h => h) (hK15 _ _ ⟨.inr (by repeat' first | exact subH_nil | refine subH_same rfl ?_ | (refine subH_blk rfl (by repeat' first | exact sub_nil | refine sub_cons rfl ?_) ?_)), ⟨.inl (by kernel_rfl), ⟨.inl (by kernel_rfl), trivial⟩⟩⟩ ?_))
      clear hK15
      refine aq_done (by kernel_rfl) ?_
      refine (QP.of (hn ((_, _)) _ _ ?_ (by exact (subH_blk rfl (sub_cons rfl sub_nil) (subH_row rfl (by rw [runW_succ A.ss (k + 1), encI_snoc, wayN_succ hx]) subH_nil))) (subH_same rfl (subH_same rfl subH_nil))) (fun _ _ h => h))
      try dsimp only
      have := (List.getElem?_eq_some_iff.1 hx).1
      omega
    ·refine ol_call rfl rfl cb120 rfl (fun w1 hb1 hs1 hB1 => Calls.mono (track_length x.1 x.2 _ hp hq) ?_)
     rintro e w2 ⟨rfl, hb2⟩
     refine After.below rfl hb1 hs1 hB1 hb2 ?_
     clear hb2 hB1 hs1 hb1 w2 w1
     refine ol_nil (to_k0 (fun _ _ h => h) (hK10 _ _ ⟨.inr (by repeat' first | exact subH_nil | refine subH_same rfl ?_ | (refine subH_blk rfl (by repeat' first | exact sub_nil | refine sub_cons rfl ?_) ?_)), ⟨.inr (by repeat' first | exact subH_nil | refine subH_same rfl ?_ | (refine subH_blk rfl (by repeat' first | exact sub_nil | refine sub_cons rfl ?_) ?_)), ⟨.inr (by repeat' first | exact subH_nil | refine subH_same rfl ?_ | (refine subH_blk rfl (by repeat' first | exact sub_nil | refine sub_cons rfl ?_) ?_)), trivial⟩⟩⟩ ?_))
     clear hK10
     refine aq_one (i := 5) (by kernel_rfl) rfl fun K11 hK11 => ?_
     refine ol_ixo (id := 10) encI _ rfl rfl rfl rfl sl61 (by omega) rfl fun x20 hx20 => ?_
     try simp only [Int.toNat_natCast] at hx20
     try simp only [Int.toNat_natCast] at hx20
     refine ol_nil (to_k0 (fun _ _ h => h) (hK11 _ _ ⟨.inr (by repeat' first | exact subH_nil | refine subH_same rfl ?_ | (refine subH_blk rfl (by repeat' first | exact sub_nil | refine sub_cons rfl ?_) ?_)), ⟨.inr (by repeat' first | exact subH_nil | refine subH_same rfl ?_ | (refine subH_blk rfl (by repeat' first | exact sub_nil | refine sub_cons rfl ?_) ?_)), ⟨.inr (by repeat' first | exact subH_nil | refine subH_same rfl ?_ | (refine subH_blk rfl (by repeat' first | exact sub_nil | refine sub_cons rfl ?_) ?_)), trivial⟩⟩⟩ ?_))
     clear hK11
     refine aq_one (i := 6) (by kernel_rfl) rfl fun K12 hK12 => ?_
     refine ol_r (r_ldw rfl (fun w1 hb1 hs1 hB1 => show Loads _ _ _ _ (.int .i64 x20) from ld_own (id := 10) hs1 rfl rfl ty3 hx20)) rfl ?_
     refine ol_nil (to_k0 (fun _ _ h => h) (hK12 _ _ ⟨.inr (by repeat' first | exact subH_nil | refine subH_same rfl ?_ | (refine subH_blk rfl (by repeat' first | exact sub_nil | refine sub_cons rfl ?_) ?_)), ⟨.inr (by repeat' first | exact subH_nil | refine subH_same rfl ?_ | (refine subH_blk rfl (by repeat' first | exact sub_nil | refine sub_cons rfl ?_) ?_)), ⟨.inr (by repeat' first | exact subH_nil | refine subH_same rfl ?_ | (refine subH_blk rfl (by repeat' first | exact sub_nil | refine sub_cons rfl ?_) ?_)), trivial⟩⟩⟩ ?_))
     clear hK12
     have e19 : (((k + 1 : Nat) : Int) - 1).toNat = k := by omega
     rw [e19] at hx20
     have h20 := runW_get hx20
     subst h20
     refine aq_r 10 999 rfl (by kernel_rfl) (by kernel_rfl) (by kernel_rfl) (.head _) (by kernel_rfl) (by kernel_rfl) rfl (r_add rfl rfl (by omega)) ?_
     refine aq_one (i := 11) (by kernel_rfl) rfl fun K13 hK13 => ?_
     refine ol_bs1 26 rfl rfl rw61 rfl rfl rfl fun a26 => ?_
     refine ol_nil (to_k0 (fun _ _ h => h) (hK13 _ _ ⟨.inr (by repeat' first | exact subH_nil | refine subH_same rfl ?_ | (refine subH_blk rfl (by repeat' first | exact sub_nil | refine sub_cons rfl ?_) ?_)), ⟨.inr (by repeat' first | exact subH_nil | refine subH_same rfl ?_ | (refine subH_blk rfl (by repeat' first | exact sub_nil | refine sub_cons rfl ?_) ?_)), ⟨.inr (by repeat' first | exact subH_nil | refine subH_same rfl ?_ | (refine subH_blk rfl (by repeat' first | exact sub_nil | refine sub_cons rfl ?_) ?_)), trivial⟩⟩⟩ ?_))
     clear hK13
     refine aq_one (i := 12) (by kernel_rfl) rfl fun K14 hK14 => ?_
     refine ol_append1 (id := 10) (id2 := 26) rfl rfl rfl rfl rfl rw61 (by omega) rfl fun a27 c27 => ?_
     refine ol_nil (to_k0 (fun _ _ h => h) (hK14 _ _ ⟨.inr (by repeat' first | exact subH_nil | refine subH_same rfl ?_ | (refine subH_blk rfl (by repeat' first | exact sub_nil | refine sub_cons rfl ?_) ?_)), ⟨.inr (by repeat' first | exact subH_nil | refine subH_same rfl ?_ | (refine subH_blk rfl (by repeat' first | exact sub_nil | refine sub_cons rfl ?_) ?_)), ⟨.inl (by kernel_rfl), trivial⟩⟩⟩ ?_))
     clear hK14
     refine aq_one (i := 13) (by kernel_rfl) rfl fun K15 hK15 => ?_
     refine ol_store (id := 3) rfl rfl rfl rfl sz61 rfl rfl (by first | decide | exact Nat.zero_lt_succ _ | simp) ?_
     refine ol_nil (to_k0 (fun _ _ h => h) (hK15 _ _ ⟨.inr (by repeat' first | exact subH_nil | refine subH_same rfl ?_ | (refine subH_blk rfl (by repeat' first | exact sub_nil | refine sub_cons rfl ?_) ?_)), ⟨.inl (by kernel_rfl), ⟨.inl (by kernel_rfl), trivial⟩⟩⟩ ?_))
     clear hK15
     refine aq_done (by kernel_rfl) ?_
     refine (QP.of (hn ((_, _)) _ _ ?_ (by exact (subH_blk rfl (sub_cons rfl sub_nil) (subH_row rfl (by rw [runW_succ A.ss (k + 1), encI_snoc, wayN_succ hx]) subH_nil))) (subH_same rfl (subH_same rfl subH_nil))) (fun _ _ h => h))
     try dsimp only
     have := (List.getElem?_eq_some_iff.1 hx).1
     omega
   ·rintro s dd hI
    refine (to_k0 (fun _ _ h => h) (hK6 _ _ _ _ _ ?_))
    clear hK6
    refine wp_seq' fun K16 hK16 => ?_
    refine wp_reg ?_
    refine ol_r (r_ld (id := 3) rfl rfl rfl sc61) rfl ?_
    refine ol_r (r_assign rfl) rfl ?_
    refine ol_nil (to_k0 (fun _ _ h => h) (hK16 _ _ _ _ _ ?_))
    clear hK16
    refine hQ.ret (rvs1 (rv_t rfl)) (fun _ _ h => h) fun w hb hs hB hkd => ?_
    first
      | (have h1 : (stepsL A.ss).length + 1 = A.ss.length := by omega
         refine ⟨_, _, _, rfl, hb, ?_⟩
         have h2 := hs.ok 10 _ rfl
         rw [show wayL A.ss = runW A.ss ((stepsL A.ss).length + 1) by rw [h1]; rfl]
         exact h2)
   ·exact fun t dd hI => hI.elim
theorem wayN_pred {ss : List SmpR} {k : Nat} {x y : SmpR} (hx : ss[((k:Int) - 1).toNat]? = some x) (hy : ss[k]? = some y) (hk : 0 < (k:Int)) : wayN ss k = wayN ss (k - 1) + lenD x y := by
  obtain ⟨j, rfl⟩ : ∃ j, k = j + 1 := ⟨k - 1, by omega⟩
  have e : (((j + 1 : Nat) : Int) - 1).toNat = j := by omega
  rw [e] at hx
  exact wayN_succ (stepsL_get hx hy)
theorem wayN_0 {ss : List SmpR} {k : Nat} (hk : ¬0 < (k:Int)) : wayN ss k = wayN ss (k - 1) := by
  have : k = 0 := by omega
  subst this; rfl
end Go.Proofs.Ytfbmkepogcimlaa

/-
  What the document tells of ways and climbs.
-/



namespace Go.Proofs.Ytfbmkepogcimlaa
open Go Go.RowKit Hx
set_option linter.unusedVariables false
set_option linter.unusedSimpArgs false
set_option maxRecDepth 8000
theorem enc_snoc {α : Type} (E : Enc α) (xs : List α) (x : α) : E.enc (xs ++ [x]) = E.enc xs ++ E.cells x := by rw [Enc.enc_append]; simp [Enc.enc]
def hillS : List SmpR := [⟨0, 0, 0, 0, -1, -1, -1⟩, ⟨1, 30, 40, 12, -1, -1, -1⟩, ⟨2, 60, 80, 2, -1, -1, -1⟩, ⟨3, 90, 120, 15, -1, -1, -1⟩]
def hillA (a : Option Addr) (c : Nat) : ActV := ⟨⟨#[97]⟩, 1, 0, a, 4, c, none, 0, 0, none, 0, 0, hillS, [], []⟩
theorem hill_ok {C : Nat} {w : World} {a : Option Addr} {c : Nat} (h : Rd encSmp C w a 4 c hillS) : (hillA a c).Ok C w :=
  { s := h, l := Rd.nil, t := Rd.nil, nm := by show 1 ≤ _; decide, lm := fun x hx => by simp [hillA] at hx, tm := fun x hx => by simp [hillA] at hx,
    lo := fun x hx => by simp [hillA, hillS] at hx; rcases hx with rfl | rfl | rfl | rfl <;> decide }
theorem hill_get {k : Nat} {z : Int} (hk : k < 4) (hz : ([0, 12, 2, 15] : List Int)[k]? = some z) : hillS[k]? = some ⟨k, 30 * k, 40 * k, z, -1, -1, -1⟩ := by
  match k, hk with
  | 0, _ => cases hz; rfl
  | 1, _ => cases hz; rfl
  | 2, _ => cases hz; rfl
  | 3, _ => cases hz; rfl
def hillD : ActD := ⟨⟨#[97]⟩, 1, 0, hillS, [], []⟩
theorem hill_chk (a : Option Addr) (c : Nat) : chkA (hillA a c).d = 0 := by
  show chkA hillD = 0
  decide +kernel
theorem hill_climb (a : Option Addr) (c : Nat) : climbR (hillA a c).d 11 = ((15, 0, 0), 0) := by
  rw [climbR_z (hill_chk a c) (by omega) (by show ¬hillD.ss.length < 2; decide)]
  show (zigR 11 hillS, (0:Int)) = _
  decide +kernel
theorem hill_ways (a : Option Addr) (c : Nat) : waysR (hillA a c).d = ([0, 50, 100, 150], 0) := by
  rw [waysR_0 (by rw [hill_chk a c]; simp)]
  have hr : rootI 2500 = 50 := rootI_eq (by unfold IsRoot; omega)
  have h0 : wayN hillS 0 = 0 := wayN_zero _
  have h1 : wayN hillS 1 = 50 := by rw [wayN_succ (p := (⟨0, 0, 0, 0, -1, -1, -1⟩, ⟨1, 30, 40, 12, -1, -1, -1⟩)) rfl, h0]; unfold lenD; rw [show sqD _ _ = 2500 from by decide, hr]; rfl
  have h2 : wayN hillS 2 = 100 := by rw [wayN_succ (p := (⟨1, 30, 40, 12, -1, -1, -1⟩, ⟨2, 60, 80, 2, -1, -1, -1⟩)) rfl, h1]; unfold lenD; rw [show sqD _ _ = 2500 from by decide, hr]; rfl
  have h3 : wayN hillS 3 = 150 := by rw [wayN_succ (p := (⟨2, 60, 80, 2, -1, -1, -1⟩, ⟨3, 90, 120, 15, -1, -1, -1⟩)) rfl, h2]; unfold lenD; rw [show sqD _ _ = 2500 from by decide, hr]; rfl
  show (wayL hillS, (0:Int)) = _
  unfold wayL runW
  show ([wayN hillS 0, wayN hillS 1, wayN hillS 2, wayN hillS 3], (0:Int)) = _
  rw [h0, h1, h2, h3]
theorem track_Ways (A : ActV) (w : World) (hA : A.Ok w.heap.size w) :
    Calls Try.prog 57 #[.agg #[.string A.name, .int .i64 A.sport, .int .i64 A.start, .slice A.sa A.sn A.sc, .slice A.la A.ln A.lc, .slice A.ta A.tn A.tc]] w fun e w' => ∃ b m k, e = .returned (.tuple #[.slice b m k, .int .i64 (waysR A.d).2]) ∧ Fresh encI 3 w w' b m k (waysR A.d).1 := by
  refine enterQ (N := 12) (C := fun _ => True) (H := []) (B := w.heap.size) (args := [_]) Try.func57 rfl rfl rfl (Nat.le_refl _) (Sat.nil _ _) fun Q hQ => ?_
  refine wp_seq' fun K1 hK1 => ?_
  refine wp_reg ?_
  refine ol_box 1 rfl rfl rfl fun b1 => ?_
  refine ol_r (r_assign rfl) rfl ?_
  refine ol_r (r_assign rfl) rfl ?_
  refine ol_nil (to_k0 (fun _ _ h => h) (hK1 _ _ _ _ _ ?_))
  clear hK1
  refine wp_seq' fun K2 hK2 => ?_
  refine wp_seq' fun K3 hK3 => ?_
  refine wp_reg ?_
  refine ol_r (r_lda (id := 1) (n := 6) rfl rfl rfl ag57) rfl ?_
  refine ol_call rfl rfl cb20 rfl (fun w1 hb1 hs1 hB1 => Calls.mono (record_Check A _ (hA.at hb1 hB1)) ?_)
  rintro e w2 ⟨rfl, hb2⟩
  refine After.below rfl hb1 hs1 hB1 hb2 ?_
  clear hb2 hB1 hs1 hb1 w2 w1
  refine ol_r (r_assign rfl) rfl ?_
  refine ol_nil (to_k0 (fun _ _ h => h) (hK3 _ _ _ _ _ ?_))
  clear hK3
  refine wp_seq' fun K4 hK4 => ?_
  refine wp_reg ?_
  refine ol_r (r_move rfl) rfl ?_
  refine ol_r (r_neq rfl rfl) rfl ?_
  refine ol_nil (to_k0 (fun _ _ h => h) (hK4 _ _ _ _ _ ?_))
  clear hK4
  refine wp_condD rfl (fun hc8 => ?_) (fun hc8 => ?_)
  ·refine wp_seq' fun K5 hK5 => ?_
   refine wp_reg ?_
   refine ol_r (r_move rfl) rfl ?_
   refine ol_r (r_assign rfl) rfl ?_
   refine ol_r (r_assign rfl) rfl ?_
   refine ol_nil (to_k0 (fun _ _ h => h) (hK5 _ _ _ _ _ ?_))
   clear hK5
   refine hQ.ret (rvs2 (rv_t rfl) (rv_t rfl)) (fun _ _ h => h) fun w hb hs hB hkd => ?_
   first
     | (have h := waysR_e hc8
        exact ⟨none, 0, 0, by rw [h], by rw [h]; exact Fresh.nil hb⟩)
  ·refine wp_skip' (to_k0 (fun _ _ h => h) (hK2 _ _ _ _ _ ?_))
   clear hK2
   refine wp_seq' fun K6 hK6 => ?_
   refine wp_reg ?_
   have hw := waysR_0 hc8
   have hok : SmpOk A.start A.ss := (goodA (Decidable.not_not.1 hc8)).smp
   refine ol_r (r_lda (id := 1) (n := 6) rfl rfl rfl ag57) rfl ?_
   refine ol_call rfl rfl cb84 rfl (fun w1 hb1 hs1 hB1 => Calls.mono (track_ways A _ (hA.at hb1 hB1) hok) ?_)
   rintro e w2 ⟨a11, n11, c11, rfl, hf11⟩
   refine After.fresh (id := 11) rfl hb1 hs1 hB1 hf11 ?_
   have hl11 := hf11.len; clear hf11 hB1 hs1 hb1 w2 w1
   refine ol_r (r_assign rfl) rfl ?_
   refine ol_r (r_assign rfl) rfl ?_
   refine ol_nil (to_k0 (fun _ _ h => h) (hK6 _ _ _ _ _ ?_))
   clear hK6
   refine hQ.ret (rvs2 (rv_t rfl) (rv_t rfl)) (fun _ _ h => h) fun w hb hs hB hkd => ?_
   first
     | (exact ⟨_, _, _, by rw [hw], by rw [hw]; exact ⟨hb, hs.ok 11 _ rfl⟩⟩)
end Go.Proofs.Ytfbmkepogcimlaa

/-
  At and Resample: program and reference; TrackAtMatchesSpec.
-/




namespace Go.Proofs.Ytfbmkepogcimlaa
open Go Go.RowKit Hx
set_option linter.unusedVariables false
set_option linter.unusedSimpArgs false
set_option maxRecDepth 8000
theorem re_row {ss : List SmpR} {step : Int} {k : Nat} {t : Int} (ht : t = (k : Int) * step) : encSmp.enc (reL ss step (k + 1)) = encSmp.enc (reL ss step k) ++ encSmp.cells (whereV ss t) := by
  subst ht
  rw [reL_succ, Enc.enc_append]
  simp [Enc.enc]
theorem re_next {t step : Int} {k : Nat} (h : t = (k : Int) * step) : t + step = ((k + 1 : Nat) : Int) * step := by
  rw [h, show ((k + 1 : Nat) : Int) = (k : Int) + 1 by omega, Int.add_mul, Int.one_mul]
theorem reN_bd {ss : List SmpR} {step : Int} (hs : 1 ≤ step) (h0 : 0 ≤ spanL ss) (h : ¬20000 < (spanL ss + step - 1) / step + 1) : reN ss step ≤ 20000 := by
  unfold reN
  omega
theorem resD_eq {a : ActD} {step : Int} (h : a.ss.length ≠ 0) : resD a step = ⟨a.name, a.sport, a.start, reL a.ss step (reN a.ss step) ++ [whereV a.ss (spanL a.ss)], a.ls, a.ts⟩ := if_neg h
theorem resD_nil {a : ActD} {step : Int} (h : a.ss.length = 0) : resD a step = a := if_pos h
theorem re_end {A : ActV} {step : Int} {B : Nat} {w' : World} {a la ta : Option Addr} {n c ln lc tn tc : Nat} (h : resR A.d step = (resD A.d step, 0)) (hl : A.ss.length ≠ 0)
    (hs : Sat B w' [(1001, .row a n c (encSmp.enc (reL A.ss step (reN A.ss step)) ++ encSmp.cells (whereV A.ss (spanL A.ss))) 70 7), (1002, .row la ln lc (encLap.enc A.ls) 110 3), (1003, .row ta tn tc (encStr.enc A.ts) 9 1)]) :
    OutA B w' (resR A.d step) (.returned (.tuple #[.agg #[.string A.name, .int .i64 A.sport, .int .i64 A.start, .slice a n c, .slice la ln lc, .slice ta tn tc], .int .i64 0])) := by
  have e : encSmp.enc (reL A.ss step (reN A.ss step) ++ [whereV A.ss (spanL A.ss)]) = encSmp.enc (reL A.ss step (reN A.ss step)) ++ encSmp.cells (whereV A.ss (spanL A.ss)) := by rw [Enc.enc_append]; simp [Enc.enc]
  rw [h, resD_eq (show A.d.ss.length ≠ 0 from hl)]
  refine ⟨a, n, c, la, ln, lc, ta, tn, tc, rfl, ?_⟩
  rw [← e] at hs
  exact hs
theorem re_nil {A : ActV} {step : Int} {B : Nat} {w' : World} {a la ta : Option Addr} {n c ln lc tn tc : Nat} (h : resR A.d step = (resD A.d step, 0)) (hl : A.ss.length = 0)
    (hs : Sat B w' [(1001, .row a n c [] 70 7), (1002, .row la ln lc (encLap.enc A.ls) 110 3), (1003, .row ta tn tc (encStr.enc A.ts) 9 1)]) :
    OutA B w' (resR A.d step) (.returned (.tuple #[.agg #[.string A.name, .int .i64 A.sport, .int .i64 A.start, .slice a n c, .slice la ln lc, .slice ta tn tc], .int .i64 0])) := by
  have hss : A.ss = [] := List.length_eq_zero_iff.1 hl
  rw [h, resD_nil (show A.d.ss.length = 0 from hl)]
  refine ⟨a, n, c, la, ln, lc, ta, tn, tc, rfl, ?_⟩
  have e : encSmp.enc A.d.ss = [] := by rw [show A.d.ss = [] from hss]; rfl
  rw [e]
  exact hs
end Go.Proofs.Ytfbmkepogcimlaa

/-
  Cut: program and reference; TrackCutMatchesSpec.
-/

namespace Go.Proofs.Ytfbmkepogcimlaa
open Go Go.RowKit Hx
set_option linter.unusedVariables false
set_option linter.unusedSimpArgs false
set_option maxRecDepth 8000
theorem innL_in {f t : Int} {l : List SmpR} : ∀ x ∈ innL f t l, x ∈ l := fun x h => (List.mem_filter.1 h).1
theorem cut_bd {st : Int} {ss : List SmpR} (hok : SmpOk st ss) {f t : Int} (hf : 0 ≤ f) (hft : f < t) (ht : t ≤ spanL ss) (hn : 0 < ss.length) : (∀ x ∈ cutL ss f t, -1000000000 ≤ x.at_ ∧ x.at_ ≤ 1000000000) ∧ (cutL ss f t).length ≤ 1000000 := by
  have hsp := hok.span
  have h1 := (whereV_bd hok (t := f) hf (by omega) hn).1
  have h2 := (whereV_bd hok (t := t) (by omega) ht hn).1
  have h3 := innL_len f t ss
  have h4 := hok.len
  refine ⟨fun x hx => ?_, ?_⟩
  · unfold cutL at hx
    rcases List.mem_append.1 hx with h | h
    · rcases List.mem_cons.1 h with h | h
      · subst h; omega
      · have := hok.bd x (innL_in x h); omega
    · simp at h; subst h; omega
  · unfold cutL
    simp
    omega
theorem cut_row {ss : List SmpR} {f t : Int} {k : Nat} {x : SmpR} (h : ss[k]? = some x) (hx : f < x.at_ ∧ x.at_ < t) : encSmp.enc (whereV ss f :: innL f t (ss.take (k + 1))) = encSmp.enc (whereV ss f :: innL f t (ss.take k)) ++ encSmp.cells x := by
  rw [innL_yes h hx, ← List.cons_append, Enc.enc_append]
  simp [Enc.enc]
theorem cut_end {ss : List SmpR} {f t : Int} {k : Nat} (h : ss.length ≤ k) : encSmp.enc (whereV ss f :: innL f t (ss.take k)) ++ encSmp.cells (whereV ss t) = encSmp.enc (cutL ss f t) := by
  rw [List.take_of_length_le h, cutL, Enc.enc_append]
  simp [Enc.enc]
theorem cut_len {ss : List SmpR} {f t : Int} {k : Nat} (h : ss.length ≤ k) : (innL f t (ss.take k)).length + 1 + 1 = (cutL ss f t).length := by
  rw [List.take_of_length_le h, cutL]; simp
theorem track_Cut (A : ActV) (f t : Int) (w : World) (hA : A.Ok w.heap.size w) :
    Calls Try.prog 17 #[.agg #[.string A.name, .int .i64 A.sport, .int .i64 A.start, .slice A.sa A.sn A.sc, .slice A.la A.ln A.lc, .slice A.ta A.tn A.tc], .int .i64 f, .int .i64 t] w fun e w' => OutA w.heap.size w' (cutR A.d f t) e ∧ Below w.heap.size w w' := by
  have hsn := hA.s.len
  refine enterQ (N := 76) (C := fun _ => True) (H := []) (B := w.heap.size) (args := [_, _, _]) Try.func17 rfl rfl rfl (Nat.le_refl _) (Sat.nil _ _) fun Q hQ => ?_
  refine wp_seq' fun K1 hK1 => ?_
  refine wp_reg ?_
  refine ol_box 3 rfl rfl rfl fun b3 => ?_
  refine ol_alloc 6 z57 rfl fun b6 => ?_
  refine ol_r (r_assign rfl) rfl ?_
  refine ol_nil (to_k0 (fun _ _ h => h) (hK1 _ _ _ _ _ ?_))
  clear hK1
  refine wp_seq' fun K2 hK2 => ?_
  refine wp_seq' fun K3 hK3 => ?_
  refine wp_reg ?_
  refine ol_r (r_lda (id := 3) (n := 6) rfl rfl rfl ag57) rfl ?_
  refine ol_call rfl rfl cb20 rfl (fun w1 hb1 hs1 hB1 => Calls.mono (record_Check A _ (hA.at hb1 hB1)) ?_)
  rintro e w2 ⟨rfl, hb2⟩
  refine After.below rfl hb1 hs1 hB1 hb2 ?_
  clear hb2 hB1 hs1 hb1 w2 w1
  refine ol_r (r_assign rfl) rfl ?_
  refine ol_nil (to_k0 (fun _ _ h => h) (hK3 _ _ _ _ _ ?_))
  clear hK3
  refine wp_seq' fun K4 hK4 => ?_
  refine wp_reg ?_
  refine ol_r (r_move rfl) rfl ?_
  refine ol_r (r_neq rfl rfl) rfl ?_
  refine ol_nil (to_k0 (fun _ _ h => h) (hK4 _ _ _ _ _ ?_))
  clear hK4
  refine wp_condD rfl (fun hc15 => ?_) (fun hc15 => ?_)
  ·refine wp_seq' fun K5 hK5 => ?_
   refine wp_reg ?_
   refine ol_r (r_build rfl (fun _ => bd57 _)) rfl ?_
   refine ol_r (r_move rfl) rfl ?_
   refine ol_store (id := 6) rfl rfl rfl rfl sz57 rfl rfl (by first | decide | exact Nat.zero_lt_succ _ | simp) ?_
   refine ol_r (r_assign rfl) rfl ?_
   refine ol_nil (to_k0 (fun _ _ h => h) (hK5 _ _ _ _ _ ?_))
   clear hK5
   refine hQ.ret (rvs2 (rv_c (id := 6) (n := 6) rfl rfl ag57 rfl) (rv_t rfl)) (fun _ _ h => h) fun w hb hs hB hkd => ?_
   exact ⟨outA_no (cutR_e hc15), hb⟩
  ·refine wp_skip' (to_k0 (fun _ _ h => h) (hK2 _ _ _ _ _ ?_))
   clear hK2
   refine wp_seq' fun K6 hK6 => ?_
   refine wp_block' ?_
   refine wp_seq' fun K7 hK7 => ?_
   refine wp_reg ?_
   refine ol_r (r_fa (o' := 3) rfl fl57_3 rfl) rfl ?_
   refine ol_r (r_ld (id := 3) rfl rfl rfl sc53) rfl ?_
   refine ol_r (r_len rfl sl53) rfl ?_
   refine ol_r (r_eql rfl rfl) rfl ?_
   refine ol_r (r_assign rfl) rfl ?_
   refine ol_nil (to_k0 (fun _ _ h => h) (hK7 _ _ _ _ _ ?_))
   clear hK7
   refine wp_condD rfl (fun hc18 => ?_) (fun hc18 => ?_)
   ·refine wp_seq' fun K8 hK8 => ?_
    refine wp_reg ?_
    refine ol_r (r_build rfl (fun _ => bd57 _)) rfl ?_
    refine ol_store (id := 6) rfl rfl rfl rfl sz57 rfl rfl (by first | decide | exact Nat.zero_lt_succ _ | simp) ?_
    refine ol_r (r_assign rfl) rfl ?_
    refine ol_nil (to_k0 (fun _ _ h => h) (hK8 _ _ _ _ _ ?_))
    clear hK8
    refine hQ.ret (rvs2 (rv_c (id := 6) (n := 6) rfl rfl ag57 rfl) (rv_t rfl)) (fun _ _ h => h) fun w hb hs hB hkd => ?_
    exact ⟨outA_no (cutR_13 (Decidable.not_not.1 hc15) (by show A.ss.length = 0; omega)), hb⟩
   ·refine wp_seq' fun K9 hK9 => ?_
    refine wp_reg ?_
    refine ol_r (r_move rfl) rfl ?_
    refine ol_r (r_lss rfl rfl) rfl ?_
    refine ol_r (r_move rfl) rfl ?_
    refine ol_split (d := 27) rfl (fun hs27 => ?_) (fun hs27 => ?_)
    ·have phs27 := hs27; try simp only [decide_eq_true_eq, decide_eq_false_iff_not, Bool.not_eq_true', Bool.not_eq_false', Bool.not_true, Bool.not_false] at phs27
     refine ol_s rfl rfl hs27 rfl ?_
     refine ol_s rfl rfl hs27 rfl ?_
     refine ol_s rfl rfl hs27 rfl ?_
     refine ol_r (r_pickT rfl hs27 rfl) rfl ?_
     refine ol_r (r_move rfl) rfl ?_
     refine ol_s rfl rfl rfl rfl ?_
     refine ol_s rfl rfl rfl rfl ?_
     refine ol_s rfl rfl rfl rfl ?_
     refine ol_s rfl rfl rfl rfl ?_
     refine ol_r (r_pickT rfl rfl rfl) rfl ?_
     refine ol_r (r_assign rfl) rfl ?_
     refine ol_nil (to_k0 (fun _ _ h => h) (hK9 _ _ _ _ _ ?_))
     clear hK9
     refine wp_condT rfl ?_
     refine wp_seq' fun K10 hK10 => ?_
     refine wp_reg ?_
     refine ol_r (r_build rfl (fun _ => bd57 _)) rfl ?_
     refine ol_store (id := 6) rfl rfl rfl rfl sz57 rfl rfl (by first | decide | exact Nat.zero_lt_succ _ | simp) ?_
     refine ol_r (r_assign rfl) rfl ?_
     refine ol_nil (to_k0 (fun _ _ h => h) (hK10 _ _ _ _ _ ?_))
     clear hK10
     refine hQ.ret (rvs2 (rv_c (id := 6) (n := 6) rfl rfl ag57 rfl) (rv_t rfl)) (fun _ _ h => h) fun w hb hs hB hkd => ?_
     exact ⟨outA_no (cutR_9 (Decidable.not_not.1 hc15) (by show A.ss.length ≠ 0; omega) (.inl phs27)), hb⟩
    ·have phs27 := hs27; try simp only [decide_eq_true_eq, decide_eq_false_iff_not, Bool.not_eq_true', Bool.not_eq_false', Bool.not_true, Bool.not_false] at phs27
     refine ol_g rfl rfl hs27 ?_
     refine ol_r (r_move rfl) rfl ?_
     refine ol_g rfl rfl hs27 ?_
     refine ol_r (r_move rfl) rfl ?_
     refine ol_g rfl rfl hs27 ?_
     refine ol_r (r_geq rfl rfl) rfl ?_
     refine ol_r (r_pickF rfl hs27 rfl) rfl ?_
     refine ol_r (r_move rfl) rfl ?_
     refine ol_split (d := 32) rfl (fun hs32 => ?_) (fun hs32 => ?_)
     ·have phs32 := hs32; try simp only [decide_eq_true_eq, decide_eq_false_iff_not, Bool.not_eq_true', Bool.not_eq_false', Bool.not_true, Bool.not_false] at phs32
      refine ol_s rfl rfl hs32 rfl ?_
      refine ol_s rfl rfl hs32 rfl ?_
      refine ol_s rfl rfl hs32 rfl ?_
      refine ol_s rfl rfl hs32 rfl ?_
      refine ol_r (r_pickT rfl hs32 rfl) rfl ?_
      refine ol_r (r_assign rfl) rfl ?_
      refine ol_nil (to_k0 (fun _ _ h => h) (hK9 _ _ _ _ _ ?_))
      clear hK9
      refine wp_condT rfl ?_
      refine wp_seq' fun K11 hK11 => ?_
      refine wp_reg ?_
      refine ol_r (r_build rfl (fun _ => bd57 _)) rfl ?_
      refine ol_store (id := 6) rfl rfl rfl rfl sz57 rfl rfl (by first | decide | exact Nat.zero_lt_succ _ | simp) ?_
      refine ol_r (r_assign rfl) rfl ?_
      refine ol_nil (to_k0 (fun _ _ h => h) (hK11 _ _ _ _ _ ?_))
      clear hK11
      refine hQ.ret (rvs2 (rv_c (id := 6) (n := 6) rfl rfl ag57 rfl) (rv_t rfl)) (fun _ _ h => h) fun w hb hs hB hkd => ?_
      exact ⟨outA_no (cutR_9 (Decidable.not_not.1 hc15) (by show A.ss.length ≠ 0; omega) (.inr (.inl phs32))), hb⟩
     ·have phs32 := hs32; try simp only [decide_eq_true_eq, decide_eq_false_iff_not, Bool.not_eq_true', Bool.not_eq_false', Bool.not_true, Bool.not_false] at phs32
      refine ol_g rfl rfl hs32 ?_
      refine ol_r (r_move rfl) rfl ?_
      refine ol_g rfl rfl hs32 ?_
      refine ol_r (r_lda (id := 3) (n := 6) rfl rfl rfl ag57) rfl ?_
      refine ol_g rfl rfl hs32 ?_
      refine ol_call rfl rfl cb41 rfl (fun w1 hb1 hs1 hB1 => Calls.mono (record_Span A _ (hA.at hb1 hB1)) ?_)
      rintro e w2 ⟨rfl, hb2⟩
      refine After.below rfl hb1 hs1 hB1 hb2 ?_
      clear hb2 hB1 hs1 hb1 w2 w1
      refine ol_g rfl rfl hs32 ?_
      refine ol_r (r_gtr rfl rfl) rfl ?_
      refine ol_r (r_pickF rfl hs32 rfl) rfl ?_
      refine ol_r (r_assign rfl) rfl ?_
      refine ol_nil (to_k0 (fun _ _ h => h) (hK9 _ _ _ _ _ ?_))
      clear hK9
      refine wp_condD rfl (fun hc24 => ?_) (fun hc24 => ?_)
      ·refine wp_seq' fun K12 hK12 => ?_
       refine wp_reg ?_
       refine ol_r (r_build rfl (fun _ => bd57 _)) rfl ?_
       refine ol_store (id := 6) rfl rfl rfl rfl sz57 rfl rfl (by first | decide | exact Nat.zero_lt_succ _ | simp) ?_
       refine ol_r (r_assign rfl) rfl ?_
       refine ol_nil (to_k0 (fun _ _ h => h) (hK12 _ _ _ _ _ ?_))
       clear hK12
       refine hQ.ret (rvs2 (rv_c (id := 6) (n := 6) rfl rfl ag57 rfl) (rv_t rfl)) (fun _ _ h => h) fun w hb hs hB hkd => ?_
       exact ⟨outA_no (cutR_9 (Decidable.not_not.1 hc15) (by show A.ss.length ≠ 0; omega) (.inr (.inr hc24))), hb⟩
      ·refine wp_skip' (to_k0 (fun _ _ h => h) (hK6 _ _ _ _ _ ?_))
       clear hK6
       refine wp_seq' fun K13 hK13 => ?_
       refine wp_reg ?_
       have h0 : chkA A.d = 0 := Decidable.not_not.1 hc15
       have hg := goodA h0
       have hok : SmpOk A.start A.ss := hg.smp
       have hl20 := hok.len
       have hsp := hok.span
       have hcb := cut_bd hok (f := f) (t := t) (by omega) (by omega) (by omega) (by omega)
       refine ol_r (r_lda (id := 3) (n := 6) rfl rfl rfl ag57) rfl ?_
       refine ol_r (r_move rfl) rfl ?_
       refine ol_call rfl rfl cb42 rfl (fun w1 hb1 hs1 hB1 => Calls.mono (track_Where A f _ (hA.at hb1 hB1) hok (by omega) (by omega)) ?_)
       rintro e w2 ⟨rfl, hb2⟩
       refine After.below rfl hb1 hs1 hB1 hb2 ?_
       clear hb2 hB1 hs1 hb1 w2 w1
       refine ol_bs1 42 rfl rfl rw53 rfl rfl rfl fun a42 => ?_
       refine ol_r (r_assign rfl) rfl ?_
       refine ol_nil (to_k0 (fun _ _ h => h) (hK13 _ _ _ _ _ ?_))
       clear hK13
       refine wp_seq' fun K14 hK14 => ?_
       refine wp_seq' fun K15 hK15 => ?_
       refine wp_reg ?_
       refine ol_r (r_fa (o' := 3) rfl fl57_3 rfl) rfl ?_
       refine ol_r (r_ld (id := 3) rfl rfl rfl sc53) rfl ?_
       refine ol_r (r_len rfl sl53) rfl ?_
       refine ol_r (r_move rfl) rfl ?_
       refine ol_nil (to_k0 (fun _ _ h => h) (hK15 _ _ _ _ _ ?_))
       clear hK15
       refine wp_block' ?_
       apply wp_loopM (σ := Nat × Nat × Option Addr × Nat) (fun s => s.1 ≤ A.ss.length ∧ s.2.1 = (innL f t (A.ss.take s.1)).length + 1) (fun s => [(46, .int .i64 s.1), (9, .slice s.2.2.1 s.2.1 s.2.2.2)]) [(1, _), (2, _), (3, _), (6, _), (7, _), (44, _), (45, _)] (fun s => [(42, .row s.2.2.1 s.2.1 s.2.2.2 (encSmp.enc (whereV A.ss f :: innL f t (A.ss.take s.1))) 70 7)]) [(3, _), (6, _)] (fun s => A.ss.length - s.1) ((0, 1, _, 1))
       ·try dsimp only
        exact ⟨Nat.zero_le _, rfl⟩
       ·exact (sub_cons rfl (sub_cons rfl sub_nil))
       ·exact (sub_cons rfl (sub_cons rfl (sub_cons rfl (sub_cons rfl (sub_cons rfl (sub_cons rfl (sub_cons rfl sub_nil)))))))
       ·exact (subH_row rfl (by dsimp only; rfl) subH_nil)
       ·exact (subH_same rfl (subH_same rfl subH_nil))
       ·rintro ⟨k, cnt, oa, oc⟩ ⟨hk, hcnt⟩
        dsimp only at hk hcnt ⊢
        have hil := innL_len f t (A.ss.take k)
        rw [List.length_take] at hil
        intro K16 hK16
        refine wp_seq' fun K17 hK17 => ?_
        refine wp_reg ?_
        refine ol_r (r_lss rfl rfl) rfl ?_
        refine ol_nil (to_k0 (fun _ _ h => h) (hK17 _ _ _ _ _ ?_))
        clear hK17
        refine wp_seq' fun K18 hK18 => ?_
        refine wp_condD rfl (fun hc47 => ?_) (fun hc47 => ?_)
        ·refine wp_skip' (to_k0 (fun _ _ h => h) (hK18 _ _ _ _ _ ?_))
         clear hK18
         refine wp_seq' fun K19 hK19 => ?_
         refine wp_block' ?_
         refine wp_seq' fun K20 hK20 => ?_
         refine wp_reg ?_
         refine ol_ixr hA.s rfl rfl sl53 (by omega) rfl fun x48 hx48 => ?_
         try simp only [Int.toNat_natCast] at hx48
         refine ol_r (r_ldw rfl (fun w1 hb1 hs1 hB1 => Rd.loads hA.s ty70 hx48 hb1)) rfl ?_
         refine ol_alloc 11 z70 rfl fun b11 => ?_
         refine ol_store (id := 11) rfl rfl rfl rfl sz70 rfl rfl (by first | decide | exact Nat.zero_lt_succ _ | simp) ?_
         refine ol_nil (to_k0 (fun _ _ h => h) (hK20 _ _ _ _ _ ?_))
         clear hK20
         refine wp_seq' fun K21 hK21 => ?_
         refine wp_reg ?_
         refine ol_r (r_fa (o' := 0) rfl fl70_0 rfl) rfl ?_
         refine ol_r (r_ld (id := 11) rfl rfl rfl sc3) rfl ?_
         refine ol_r (r_move rfl) rfl ?_
         refine ol_r (r_gtr rfl rfl) rfl ?_
         refine ol_r (r_move rfl) rfl ?_
         refine ol_split (d := 54) rfl (fun hs54 => ?_) (fun hs54 => ?_)
         ·have phs54 := hs54; try simp only [decide_eq_true_eq, decide_eq_false_iff_not, Bool.not_eq_true', Bool.not_eq_false', Bool.not_true, Bool.not_false] at phs54
          refine ol_g rfl rfl hs54 ?_
          refine ol_r (r_fa (o' := 0) rfl fl70_0 rfl) rfl ?_
          refine ol_g rfl rfl hs54 ?_
          refine ol_r (r_ld (id := 11) rfl rfl rfl sc3) rfl ?_
          refine ol_g rfl rfl hs54 ?_
          refine ol_r (r_move rfl) rfl ?_
          refine ol_g rfl rfl hs54 ?_
          refine ol_r (r_lss rfl rfl) rfl ?_
          refine ol_r (r_pickT rfl hs54 rfl) rfl ?_
          refine ol_nil (to_k0 (fun _ _ h => h) (hK21 _ _ _ _ _ ?_))
          clear hK21
          refine wp_condD rfl (fun hc59 => ?_) (fun hc59 => ?_)
          ·refine wp_reg ?_
           refine ol_r (r_move rfl) rfl ?_
           refine ol_r (r_lda (id := 11) (n := 7) rfl rfl rfl ag70) rfl ?_
           refine ol_bs1 62 rfl rfl rw53 rfl rfl rfl fun a62 => ?_
           refine ol_append1 (id := 42) (id2 := 62) rfl rfl rfl rfl rfl rw53 (by omega) rfl fun a63 c63 => ?_
           refine ol_r (r_assign rfl) rfl ?_
           refine ol_nil (to_k0 (fun _ _ h => h) (hK19 _ _ _ _ _ ?_))
           clear hK19
           refine wp_reg ?_
           refine ol_r (r_add rfl rfl (by omega)) rfl ?_
           refine ol_r (r_move rfl) rfl ?_
           refine ol_nil (to_k0 (fun _ _ h => h) (hK16 ((k + 1, _, _, _)) _ _ ?_ ?_ (sub_cons rfl (sub_cons rfl sub_nil)) (sub_cons rfl (sub_cons rfl (sub_cons rfl (sub_cons rfl (sub_cons rfl (sub_cons rfl (sub_cons rfl sub_nil))))))) (by exact (subH_row rfl (by first | (dsimp only; first | exact cut_row hx48 ⟨by omega, by omega⟩ | (rw [innL_no hx48 (by omega)]); done) | (first | exact cut_row hx48 ⟨by omega, by omega⟩ | (rw [innL_no hx48 (by omega)]); done) | (dsimp only; done)) subH_nil)) (subH_same rfl (subH_same rfl subH_nil))))
           ·try dsimp only
            first
              | exact ⟨by omega, by rw [innL_yes hx48 ⟨by omega, by omega⟩]; simp [hcnt]⟩
           ·try dsimp only
            omega
          ·refine wp_skip' (to_k0 (fun _ _ h => h) (hK19 _ _ _ _ _ ?_))
           clear hK19
           refine wp_reg ?_
           refine ol_r (r_add rfl rfl (by omega)) rfl ?_
           refine ol_r (r_move rfl) rfl ?_
           refine ol_nil (to_k0 (fun _ _ h => h) (hK16 ((k + 1, _, _, _)) _ _ ?_ ?_ (sub_cons rfl (sub_cons rfl sub_nil)) (sub_cons rfl (sub_cons rfl (sub_cons rfl (sub_cons rfl (sub_cons rfl (sub_cons rfl (sub_cons rfl sub_nil))))))) (by exact (subH_row rfl (by dsimp only; first | exact cut_row hx48 ⟨by omega, by omega⟩ | (rw [innL_no hx48 (by omega)])) subH_nil)) (subH_same rfl (subH_same rfl subH_nil))))
           ·try dsimp only
            first
              | exact ⟨by omega, by rw [innL_no hx48 (by omega)]; exact hcnt⟩
           ·try dsimp only
            omega
         ·have phs54 := hs54; try simp only [decide_eq_true_eq, decide_eq_false_iff_not, Bool.not_eq_true', Bool.not_eq_false', Bool.not_true, Bool.not_false] at phs54
          refine ol_s rfl rfl hs54 rfl ?_
          refine ol_s rfl rfl hs54 rfl ?_
          refine ol_s rfl rfl hs54 rfl ?_
          refine ol_s rfl rfl hs54 rfl ?_
          refine ol_r (r_pickF rfl hs54 rfl) rfl ?_
          refine ol_nil (to_k0 (fun _ _ h => h) (hK21 _ _ _ _ _ ?_))
          clear hK21
          refine wp_condF rfl ?_
          refine wp_skip' (to_k0 (fun _ _ h => h) (hK19 _ _ _ _ _ ?_))
          clear hK19
          refine wp_reg ?_
          refine ol_r (r_add rfl rfl (by omega)) rfl ?_
          refine ol_r (r_move rfl) rfl ?_
          refine ol_nil (to_k0 (fun _ _ h => h) (hK16 ((k + 1, _, _, _)) _ _ ?_ ?_ (sub_cons rfl (sub_cons rfl sub_nil)) (sub_cons rfl (sub_cons rfl (sub_cons rfl (sub_cons rfl (sub_cons rfl (sub_cons rfl (sub_cons rfl sub_nil))))))) (by exact (subH_row rfl (by dsimp only; first | exact cut_row hx48 ⟨by omega, by omega⟩ | (rw [innL_no hx48 (by omega)])) subH_nil)) (subH_same rfl (subH_same rfl subH_nil))))
          ·try dsimp only
           first
             | exact ⟨by omega, by rw [innL_no hx48 (by omega)]; exact hcnt⟩
          ·try dsimp only
           omega
        ·refine wp_exit' (to_k0 (fun _ _ h => h) (hK14 _ _ _ _ _ ?_))
         clear hK14
         refine wp_seq' fun K22 hK22 => ?_
         refine wp_rega [(999, [(3, _)]), (11, [(6, _)]), (6, [(42, _)])] (by kernel_rfl) ⟨.inr (subH_same rfl subH_nil), ⟨.inr (subH_same rfl subH_nil), ⟨.inr (subH_same rfl subH_nil), trivial⟩⟩⟩ ?_
         refine aq_r 0 999 rfl (by kernel_rfl) (by kernel_rfl) (by kernel_rfl) (.head _) (by kernel_rfl) (by kernel_rfl) rfl (r_lda (id := 3) (n := 6) rfl rfl rfl ag57) ?_
         refine aq_r 1 999 rfl (by kernel_rfl) (by kernel_rfl) (by kernel_rfl) (.head _) (by kernel_rfl) (by kernel_rfl) rfl (r_move rfl) ?_
         refine aq_r 2 999 rfl (by kernel_rfl) (by kernel_rfl) (by kernel_rfl) (.head _) (by kernel_rfl) (by kernel_rfl) rfl (r_lda (id := 3) (n := 6) rfl rfl rfl ag57) ?_
         refine aq_r 3 999 rfl (by kernel_rfl) (by kernel_rfl) (by kernel_rfl) (.head _) (by kernel_rfl) (by kernel_rfl) rfl (r_move rfl) ?_
         refine aq_r 7 999 rfl (by kernel_rfl) (by kernel_rfl) (by kernel_rfl) (.head _) (by kernel_rfl) (by kernel_rfl) rfl (r_move rfl) ?_
         refine aq_one (i := 4) (by kernel_rfl) rfl fun K23 hK23 => ?_
         refine ol_call rfl rfl cb42 rfl (fun w1 hb1 hs1 hB1 => Calls.mono (track_Where A t _ (hA.at hb1 hB1) hok (by omega) (by omega)) ?_)
         rintro e w2 ⟨rfl, hb2⟩
         refine After.below rfl hb1 hs1 hB1 hb2 ?_
         clear hb2 hB1 hs1 hb1 w2 w1
         refine ol_nil (to_k0 (fun _ _ h => h) (hK23 _ _ ⟨.inr (by repeat' first | exact subH_nil | refine subH_same rfl ?_ | (refine subH_blk rfl (by repeat' first | exact sub_nil | refine sub_cons rfl ?_) ?_)), ⟨.inr (by repeat' first | exact subH_nil | refine subH_same rfl ?_ | (refine subH_blk rfl (by repeat' first | exact sub_nil | refine sub_cons rfl ?_) ?_)), ⟨.inr (by repeat' first | exact subH_nil | refine subH_same rfl ?_ | (refine subH_blk rfl (by repeat' first | exact sub_nil | refine sub_cons rfl ?_) ?_)), trivial⟩⟩⟩ ?_))
         clear hK23
         refine aq_one (i := 5) (by kernel_rfl) rfl fun K24 hK24 => ?_
         refine ol_bs1 70 rfl rfl rw53 rfl rfl rfl fun a70 => ?_
         refine ol_nil (to_k0 (fun _ _ h => h) (hK24 _ _ ⟨.inr (by repeat' first | exact subH_nil | refine subH_same rfl ?_ | (refine subH_blk rfl (by repeat' first | exact sub_nil | refine sub_cons rfl ?_) ?_)), ⟨.inr (by repeat' first | exact subH_nil | refine subH_same rfl ?_ | (refine subH_blk rfl (by repeat' first | exact sub_nil | refine sub_cons rfl ?_) ?_)), ⟨.inr (by repeat' first | exact subH_nil | refine subH_same rfl ?_ | (refine subH_blk rfl (by repeat' first | exact sub_nil | refine sub_cons rfl ?_) ?_)), trivial⟩⟩⟩ ?_))
         clear hK24
         refine aq_one (i := 6) (by kernel_rfl) rfl fun K25 hK25 => ?_
         refine ol_append1 (id := 42) (id2 := 70) rfl rfl rfl rfl rfl rw53 (by omega) rfl fun a71 c71 => ?_
         refine ol_nil (to_k0 (fun _ _ h => h) (hK25 _ _ ⟨.inr (by repeat' first | exact subH_nil | refine subH_same rfl ?_ | (refine subH_blk rfl (by repeat' first | exact sub_nil | refine sub_cons rfl ?_) ?_)), ⟨.inr (by repeat' first | exact subH_nil | refine subH_same rfl ?_ | (refine subH_blk rfl (by repeat' first | exact sub_nil | refine sub_cons rfl ?_) ?_)), ⟨.inl (by kernel_rfl), trivial⟩⟩⟩ ?_))
         clear hK25
         refine aq_one (i := 8) (by kernel_rfl) rfl fun K26 hK26 => ?_
         refine ol_call rfl rfl cb43 rfl (fun w1 hb1 hs1 hB1 => ?_)
         have hke : A.ss.length ≤ k := by omega
         have hcl := cut_len (f := f) (t := t) hke
         refine Calls.mono (track_part A _ _ _ (cutL A.ss f t) f _ (hA.at hb1 hB1) (Sat.rd hs1 (E := encSmp) (id := 42) (xs := cutL A.ss f t) (by rw [← cut_end hke]; rfl) rfl) hg (by omega) hcb.1 (by omega)) ?_
         rintro e w2 ⟨⟨sa, sn, sc, la, ln, lc, ta, tn, tc, rfl, hs2⟩, hb2⟩
         refine After.more rfl hb1 hs1 hB1 hb2 hs2 ?_
         clear hs2 hb2 hB1 hs1 hb1 w2 w1
         refine ol_nil (to_k0 (fun _ _ h => h) (hK26 _ _ ⟨.inr (by repeat' first | exact subH_nil | refine subH_same rfl ?_ | (refine subH_blk rfl (by repeat' first | exact sub_nil | refine sub_cons rfl ?_) ?_)), ⟨.inr (by repeat' first | exact subH_nil | refine subH_same rfl ?_ | (refine subH_blk rfl (by repeat' first | exact sub_nil | refine sub_cons rfl ?_) ?_)), ⟨.inl (by kernel_rfl), trivial⟩⟩⟩ ?_))
         clear hK26
         refine aq_r 9 999 rfl (by kernel_rfl) (by kernel_rfl) (by kernel_rfl) (.head _) (by kernel_rfl) (by kernel_rfl) rfl (r_extract rfl rfl) ?_
         refine aq_r 10 999 rfl (by kernel_rfl) (by kernel_rfl) (by kernel_rfl) (.head _) (by kernel_rfl) (by kernel_rfl) rfl (r_extract rfl rfl) ?_
         refine aq_one (i := 11) (by kernel_rfl) rfl fun K27 hK27 => ?_
         refine ol_store (id := 6) rfl rfl rfl rfl sz57 rfl rfl (by first | decide | exact Nat.zero_lt_succ _ | simp) ?_
         refine ol_nil (to_k0 (fun _ _ h => h) (hK27 _ _ ⟨.inr (by repeat' first | exact subH_nil | refine subH_same rfl ?_ | (refine subH_blk rfl (by repeat' first | exact sub_nil | refine sub_cons rfl ?_) ?_)), ⟨.inl (by kernel_rfl), ⟨.inl (by kernel_rfl), trivial⟩⟩⟩ ?_))
         clear hK27
         refine aq_r 12 999 rfl (by kernel_rfl) (by kernel_rfl) (by kernel_rfl) (.head _) (by kernel_rfl) (by kernel_rfl) rfl (r_assign rfl) ?_
         refine aq_done (by kernel_rfl) ?_
         refine (to_k0 (fun _ _ h => h) (hK22 _ _ _ _ _ ?_))
         clear hK22
         refine hQ.ret (rvs2 (rv_c (id := 6) (n := 6) rfl rfl ag57 rfl) (rv_t rfl)) (fun _ _ h => h) fun w hb hs hB hkd => ?_
         refine ⟨?_, hb⟩
         rw [cutR_0 h0 (by show A.ss.length ≠ 0; omega) (fun h => by rcases h with h | h | h <;> first | exact phs27 h | exact phs32 h | exact hc24 h)]
         exact ⟨sa, sn, sc, la, ln, lc, ta, tn, tc, rfl, hs.three 1001 1002 1003 1001 1002 1003 (by decide) (by decide) (by decide) rfl rfl rfl (Ent.le_refl _) (Ent.le_refl _) (Ent.le_refl _)⟩
end Go.Proofs.Ytfbmkepogcimlaa

/-
  Between the library's contracts of sorting, which speak of worlds, and rows of the caller's.
-/


namespace Go.Proofs.Ytfbmkepogcimlaa.Hx
open Go Go.RowKit
set_option linter.unusedVariables false
set_option linter.unusedSimpArgs false
section
variable {w : World} {B g n cap size : Nat} {e : TypeId} {vs vs' : List Value}
theorem row_cells (h : w.ownsRow B e size (.slice (some ⟨g, 0, none⟩) n cap) n vs) : ∃ cur : Array Value, w.heap[g]? = some (.cells cur e (0, 0)) ∧ vs.length ≤ cur.size ∧ (∀ (j : Nat) (u : Value), vs[j]? = some u → cur[j]? = some u) := by
  obtain ⟨hl, h | ⟨g', cap', cur, hv, hb, hg, h1, h2, h3, h4⟩⟩ := h
  · cases h.1
  · cases hv
    have h5 := Nat.mul_le_mul_right size h1
    refine ⟨cur, hg, by omega, fun j u hj => ?_⟩
    rw [← h4, List.getElem?_take] at hj
    split at hj
    · simpa using hj
    · cases hj
theorem row_holds (h : w.ownsRow B e size (.slice (some ⟨g, 0, none⟩) n cap) n vs) : Go.Sort.Holds id w g 0 vs.toArray := by
  obtain ⟨cur, hg, hs, hc⟩ := row_cells h
  intro j hj
  have hj' : j < vs.length := by simpa using hj
  have h6 := hc j _ (List.getElem?_eq_getElem hj')
  constructor
  · simp [World.cell?, hg, h6, hj']
  · simp [World.frozen?, hg]
/-- The world behind the sort: the row holds other values, draws, and new blocks. -/
def putW (w : World) (g nd : Nat) (vs : List Value) (os : Array Obj) : World := Go.Sort.grow (Go.Sort.putRow id (Go.Sort.ahead w nd) g 0 vs.toArray) os
theorem putW_size (w : World) (g nd : Nat) (vs : List Value) (os : Array Obj) : w.heap.size ≤ (putW w g nd vs os).heap.size := by
  simp [putW, Go.Sort.grow, Go.Sort.putRow, Go.Sort.mapBlock, Go.Sort.ahead]
theorem putW_at {g nd : Nat} {vs : List Value} {os : Array Obj} {cur : Array Value} {fr : Nat × Nat} (hg : w.heap[g]? = some (.cells cur e fr)) : (putW w g nd vs os).heap[g]? = some (.cells (Go.Sort.putCells id 0 vs.toArray cur) e fr) := by
  have hlt := (Array.getElem?_eq_some_iff.1 hg).1
  simp only [putW, Go.Sort.grow, Go.Sort.putRow, Go.Sort.mapBlock, Go.Sort.ahead]
  rw [Array.getElem?_append, if_pos (by simpa using hlt), Array.getElem?_modify, if_pos rfl, hg]
  rfl
theorem putW_other {g nd k : Nat} {vs : List Value} {os : Array Obj} (hk : k < w.heap.size) (hn : k ≠ g) : (putW w g nd vs os).heap[k]? = w.heap[k]? := by
  simp only [putW, Go.Sort.grow, Go.Sort.putRow, Go.Sort.mapBlock, Go.Sort.ahead]
  rw [Array.getElem?_append, if_pos (by simpa using hk), Array.getElem?_modify, if_neg (fun h => hn h.symm)]
theorem putW_row {nd : Nat} {os : Array Obj} (h : w.ownsRow B e size (.slice (some ⟨g, 0, none⟩) n cap) n vs) (hl : vs'.length = vs.length) : (putW w g nd vs' os).ownsRow B e size (.slice (some ⟨g, 0, none⟩) n cap) n vs' := by
  obtain ⟨h0, h | ⟨g', cap', cur, hv, hb, hg, h1, h2, h3, h4⟩⟩ := h
  · cases h.1
  · cases hv
    refine ⟨by rw [hl]; exact h0, .inr ⟨_, _, _, rfl, hb, putW_at hg, h1, h2, by simpa [Go.Sort.putCells] using h3, ?_⟩⟩
    have h5 := Nat.mul_le_mul_right size h1
    apply List.ext_getElem?
    intro j
    rw [List.getElem?_take]
    split
    · rename_i hj
      have hjc : j < cur.size := by omega
      have hjv : j < vs'.length := by omega
      simp [Go.Sort.putCells, hjc, hjv]
    · rename_i hj
      rw [List.getElem?_eq_none (by omega)]
end
theorem Sat.sorted {w : World} {B id g n cap size nd : Nat} {e : TypeId} {vs vs' : List Value} {H : HL} {os : Array Obj} (hs : Sat B w H) (hB : B ≤ w.heap.size) (hr : look H id = some (.row (some ⟨g, 0, none⟩) n cap vs e size)) (hl : vs'.length = vs.length) :
    Below B w (putW w g nd vs' os) ∧ Sat B (putW w g nd vs' os) ((id, .row (some ⟨g, 0, none⟩) n cap vs' e size) :: H) ∧ B ≤ (putW w g nd vs' os).heap.size ∧ Kd (fun _ => False) w (putW w g nd vs' os) := by
  have hok := hs.ok id _ hr
  have hlt := Ent.own_lt hok (b := g) rfl
  obtain ⟨cur, hg, _, _⟩ := row_cells hok
  refine ⟨⟨rfl, rfl, rfl, putW_size _ _ _ _ _, fun k hk => putW_other (by omega) (by omega)⟩, ?_, Nat.le_trans hB (putW_size _ _ _ _ _), ?_⟩
  · refine hs.turn hr (e' := .row (some ⟨g, 0, none⟩) n cap vs' e size) (putW_row hok hl) (fun k hk hne => putW_other hk fun h => hne (by rw [h]; rfl)) (fun b hb => .inl hb)
  · intro k o hk hc _
    by_cases h : k = g
    · subst h; rw [hg] at hk; cases hk; cases hc
    · rw [putW_other (Array.getElem?_eq_some_iff.1 hk).1 h]; exact hk
/-- A store into a field of an element of a row of the call's own. -/
theorem ol_storeRowF {P : Program} {N : Fr} {B : Nat} {w0 : World} {Q : Exit → Act → World → Prop} {al : AL} {H : HL} {ops rest : List Oper} {ty : TypeId} {pos : String} {after : Array Edge} {α : Type} {a : Option Addr} {n cap : Nat}
    {ad x : Operand} {t e : TypeId} {id size o i : Nat} {v : Value} {x0 : α} (E : Enc α) (xs : List α) (y : α) (hp : ev al ad = some (.pointer ((a.map (·.add (i * E.size))).map (·.add o)))) (hH : look H id = some (.row a n cap (E.enc xs) e size)) (hz : size = E.size)
    (hx : ev al x = some v) (hv : v.cells = #[v]) (h1 : one v = true) (hT : Size P t 1) (hx0 : xs[i]? = some x0) (ho : o < E.size) (hy : E.cells y = (E.cells x0).set o v)
    (k : OL P N B w0 ops rest Q al ((id, .row a n cap (E.enc (xs.set i y)) e size) :: H)) :
    OL P N B w0 ops ({ dst := none, op := .store t ad x, type := ty, pos, after, guard := none } :: rest) Q al H := by
  subst hz
  intro a0 w hst
  refine wpList_plain rfl fun K hK => ?_
  have hok : w.ownsRow B e E.size (.slice a n cap) n (E.enc xs) := hst.sat.ok _ _ hH
  have hlen : xs.length = n := (hst.sat.rd hH rfl).len
  have hi : i < n := by have := (List.getElem?_eq_some_iff.1 hx0).1; omega
  obtain ⟨h1', h2⟩ := hok
  rcases h2 with ⟨hv', hn⟩ | ⟨g, cap', cur, hv', hb, hg, hnc, hcm, hcs, htake⟩
  · omega
  cases hv'
  have hlt := (Array.getElem?_eq_some_iff.1 hg).1
  have hmul : i * E.size + E.size ≤ n * E.size := by
    have : i + 1 ≤ n := by omega
    have := Nat.mul_le_mul_right E.size this
    rw [Nat.add_mul] at this; omega
  have hcapm : n * E.size ≤ cap * E.size := Nat.mul_le_mul_right _ hnc
  obtain ⟨cur', r1, r2, r3⟩ := run_storeCells (P := P) g e [v] (i * E.size + o) 0 cur w hg (by simp only [List.length_cons, List.length_nil]; omega) (fun u hu => by simp at hu; subst hu; exact h1)
  have hst' : (storeVar t ⟨g, i * E.size + o, none⟩ v).run P w = .ok () { w with heap := w.heap.setIfInBounds g (.cells cur' e (0, 0)) } := by
    simp only [storeVar, Sem.run_bind, run_sizeOf hT, Result.andThen_ok, hv, List.size_toArray, List.length_cons, List.length_nil, Nat.zero_add, r1, ne_eq, not_true_eq_false, if_false]
  have hpe : a0.eval ad = .pointer (some ⟨g, i * E.size + o, none⟩) := by
    rw [hst.regs.eval hp]; simp [add_none]
  unfold Oper.wp
  simp only [execOp, Instr.storeAt, Instr.sureAddr, hpe, hst.regs.eval hx, Sem.run_bind, Sem.run_pure, Result.andThen_ok, hst', Oper.upon_skip]
  refine hK _ _ (k _ _ (hst.step hst.regs (Below.setBlk hst.below hb _) ?_ (by simpa using hst.base) (Kd.one g (fun k _ hk => setBlk_other w g k _ hk) (fun o ho => .inl (by rw [hg] at ho; cases ho; rfl)))))
  refine hst.sat.turn hH (e' := .row (some ⟨g, 0, none⟩) n cap (E.enc (xs.set i y)) e E.size) ?_ (fun k _ hk => setBlk_other w g k _ (fun e => hk (by simp [Ent.own, e]))) (fun b' hb' => .inl hb')
  refine ⟨by rw [E.enc_len, List.length_set, hlen], .inr ⟨g, cap, cur', rfl, hb, by simp [hlt], hnc, hcm, by rw [r2, hcs], ?_⟩⟩
  apply List.ext_getElem?
  intro j
  rw [E.enc_set xs _ y j (by omega), List.getElem?_take]
  have h3 := r3 j
  simp only [Nat.add_zero, List.length_cons, List.length_nil, Nat.zero_add] at h3
  by_cases hj : j < n * E.size
  · rw [if_pos hj, Array.getElem?_toList, h3]
    by_cases hr : i * E.size ≤ j ∧ j < i * E.size + E.size
    · rw [if_pos hr, hy, List.getElem?_set]
      by_cases hjo : j = i * E.size + o
      · subst hjo
        rw [if_pos (by omega), Nat.sub_self, if_pos (by omega), if_pos (by rw [E.len]; exact ho)]; rfl
      · rw [if_neg (by omega), if_neg (by omega)]
        have h4 : j = i * E.size + (j - i * E.size) := by omega
        cases h5 : (E.cells x0)[j - i * E.size]? with
        | none => have := List.getElem?_eq_none_iff.1 h5; rw [E.len] at this; omega
        | some u =>
          have h6 := E.enc_get xs i x0 hx0 _ u h5
          rw [← h4, ← htake, List.getElem?_take, if_pos hj, Array.getElem?_toList] at h6
          exact h6
    · rw [if_neg hr, if_neg (by omega), ← htake, List.getElem?_take, if_pos hj, Array.getElem?_toList]
  · rw [if_neg hj, if_neg (by omega), List.getElem?_eq_none (by rw [h1']; omega)]
theorem putRow_id {α : Type} [Inhabited α] (enc : α → Value) (w : World) (g : Nat) (d : Array α) : Go.Sort.putRow enc w g 0 d = Go.Sort.putRow id w g 0 (d.map enc) := by
  unfold Go.Sort.putRow Go.Sort.mapBlock
  congr 2
  funext o
  cases o <;> simp only [Go.Sort.onCells]
  congr 1
  unfold Go.Sort.putCells
  apply Array.ext (by simp)
  intro i h1 h2
  simp only [Array.getElem_mapIdx, Array.size_map, Nat.zero_le, true_and, Nat.zero_add, Nat.sub_zero]
  split
  · rename_i h; simp [h]
  · rfl
theorem holds_id {α : Type} [Inhabited α] {enc : α → Value} {w : World} {g : Nat} {d : Array α} (h : Go.Sort.Holds id w g 0 (d.map enc)) : Go.Sort.Holds enc w g 0 d := by
  intro j hj
  have := h j (by simpa using hj)
  simpa [hj] using this
end Go.Proofs.Ytfbmkepogcimlaa.Hx

/-
  slices.Sort of ints and of strings: the library's contracts, laid at this program, for rows of the caller's.
-/




namespace Go.Proofs.Ytfbmkepogcimlaa
open Go Go.RowKit Hx
set_option linter.unusedVariables false
set_option linter.unusedSimpArgs false
set_option maxRecDepth 8000
theorem row_some {B n c size : Nat} {w : World} {a : Option Addr} {vs : List Value} {e : TypeId} (h : w.ownsRow B e size (.slice a n c) n vs) (hn : 0 < n) : ∃ g, a = some ⟨g, 0, none⟩ := by
  obtain ⟨_, h | ⟨g, cap', cur, hv, _⟩⟩ := h
  · omega
  · cases hv; exact ⟨g, rfl⟩
def sortI (xs : List Int) : List Int := xs.mergeSort fun x y => decide (x ≤ y)
theorem encI_map (xs : List Int) : encI.enc xs = xs.map (Value.int .i64) := by
  induction xs with
  | nil => rfl
  | cons x r ih => rw [List.map_cons, ← ih]; rfl
def lay190_ren : Go.Shelf.Ren := ⟨fun | 0 => 0 | 1 => 1 | 2 => 2 | 106 => 88 | 111 => 14 | 122 => 75 | 125 => 83 | 128 => 118 | 129 => 119 | 134 => 128 | 190 => 55 | 193 => 26 | 194 => 56 | 213 => 121 | 215 => 106 | 258 => 82 | 264 => 94 | 265 => 143 | 302 => 109 | 303 => 110 | 304 => 111 | 305 => 112 | 306 => 113 | 307 => 114 | 308 => 115 | 309 => 116 | 310 => 117 | 329 => 136 | 330 => 137 | 333 => 135 | 334 => 138 | 335 => 139 | 336 => 140 | 344 => 146 | 347 => 149 | 348 => 150 | 349 => 151 | 350 => 152 | 351 => 153 | 352 => 154 | 353 => 155 | 354 => 156 | 355 => 157 | 356 => 158 | 357 => 159 | 358 => 160 | 359 => 161 | 360 => 162 | 361 => 163 | 363 => 164 | 366 => 165 | n => n, fun | 0 => 0 | 1 => 1 | 2 => 2 | 3 => 3 | 4 => 4 | 5 => 5 | 6 => 6 | 7 => 7 | 8 => 8 | 9 => 9 | 10 => 10 | 11 => 11 | 12 => 12 | 13 => 13 | 14 => 14 | 15 => 15 | 16 => 16 | 17 => 17 | 18 => 18 | 19 => 19 | 20 => 20 | 21 => 21 | 22 => 198 | 27 => 160 | 28 => 61 | 31 => 55 | 34 => 64 | 41 => 130 | 43 => 141 | 46 => 152 | 47 => 151 | 51 => 202 | 52 => 201 | 53 => 170 | 54 => 203 | 74 => 205 | 75 => 206 | 80 => 225 | 81 => 231 | 100 => 120 | 101 => 88 | 102 => 121 | 104 => 95 | 111 => 98 | 127 => 235 | 131 => 139 | 135 => 150 | 143 => 224 | 144 => 240 | 145 => 241 | 148 => 171 | 149 => 172 | 164 => 242 | 182 => 194 | 183 => 195 | 188 => 193 | 189 => 196 | 190 => 197 | 191 => 199 | 192 => 200 | 218 => 213 | 219 => 214 | 220 => 215 | 222 => 217 | 224 => 216 | 225 => 218 | 228 => 222 | 229 => 145 | 231 => 223 | 238 => 226 | 239 => 227 | 240 => 228 | 241 => 229 | 242 => 230 | 243 => 232 | 244 => 233 | 245 => 234 | 246 => 236 | 247 => 237 | 248 => 238 | 249 => 239 | n => n, fun n => n⟩
theorem lay190 : Go.Proofs.Lays.n190 Try.prog lay190_ren := { mixed := by kernel_rfl, f125 := Try.func83.trans (congrArg some (by kernel_rfl)), f128 := Try.func118.trans (congrArg some (by kernel_rfl)), f129 := Try.func119.trans (congrArg some (by kernel_rfl)), f190 := Try.func55.trans (congrArg some (by kernel_rfl)), f258 := Try.func82.trans (congrArg some (by kernel_rfl)), f302 := Try.func109.trans (congrArg some (by kernel_rfl)), f303 := Try.func110.trans (congrArg some (by kernel_rfl)), f304 := Try.func111.trans (congrArg some (by kernel_rfl)), f305 := Try.func112.trans (congrArg some (by kernel_rfl)), f306 := Try.func113.trans (congrArg some (by kernel_rfl)), f307 := Try.func114.trans (congrArg some (by kernel_rfl)), f308 := Try.func115.trans (congrArg some (by kernel_rfl)), f309 := Try.func116.trans (congrArg some (by kernel_rfl)), f310 := Try.func117.trans (congrArg some (by kernel_rfl)), f329 := Try.func136.trans (congrArg some (by kernel_rfl)), f330 := Try.func137.trans (congrArg some (by kernel_rfl)), f333 := Try.func135.trans (congrArg some (by kernel_rfl)), f334 := Try.func138.trans (congrArg some (by kernel_rfl)), f335 := Try.func139.trans (congrArg some (by kernel_rfl)), f336 := Try.func140.trans (congrArg some (by kernel_rfl)), f344 := Try.func146.trans (congrArg some (by kernel_rfl)), t0 := Try.underlying0, a0 := Try.isAgg0, z0 := Try.sizeOf0, v0 := Try.zeroValue0, t3 := Try.underlying3, a3 := Try.isAgg3, z3 := Try.sizeOf3, v3 := Try.zeroValue3, t4 := Try.underlying4, a4 := Try.isAgg4, z4 := Try.sizeOf4, v4 := Try.zeroValue4, t5 := Try.underlying5, a5 := Try.isAgg5, z5 := Try.sizeOf5, v5 := Try.zeroValue5, t9 := Try.underlying9, a9 := Try.isAgg9, z9 := Try.sizeOf9, v9 := Try.zeroValue9, t31 := Try.underlying55, a31 := Try.isAgg55, z31 := Try.sizeOf55, v31 := Try.zeroValue55, t46 := Try.underlying152, a46 := Try.isAgg152, z46 := Try.sizeOf152, v46 := Try.zeroValue152, t51 := Try.underlying202, a51 := Try.isAgg202, z51 := Try.sizeOf202, v51 := Try.zeroValue202, t53 := Try.underlying170, a53 := Try.isAgg170, z53 := Try.sizeOf170, v53 := Try.zeroValue170, t131 := Try.underlying139, a131 := Try.isAgg139, z131 := Try.sizeOf139, v131 := Try.zeroValue139, t182 := Try.underlying194, a182 := Try.isAgg194, z182 := Try.sizeOf194, v182 := Try.zeroValue194, t183 := Try.underlying195, a183 := Try.isAgg195, z183 := Try.sizeOf195, v183 := Try.zeroValue195, t218 := Try.underlying213, a218 := Try.isAgg213, z218 := Try.sizeOf213, v218 := Try.zeroValue213, t222 := Try.underlying217, a222 := Try.isAgg217, z222 := Try.sizeOf217, v222 := Try.zeroValue217, t228 := Try.underlying222, a228 := Try.isAgg222, z228 := Try.sizeOf222, v228 := Try.zeroValue222, t229 := Try.underlying145, a229 := Try.isAgg145, z229 := Try.sizeOf145, v229 := Try.zeroValue145 }

def bytesL (b : ByteArray) : List UInt8 := b.data.toList
def sortS (xs : List ByteArray) : List ByteArray := ((xs.map bytesL).mergeSort fun x y => decide (x ≤ y)).map fun l => ⟨l.toArray⟩
theorem encStr_map (xs : List ByteArray) : encStr.enc xs = (xs.map bytesL).map Go.Proofs.encStr := by
  induction xs with
  | nil => rfl
  | cons x r ih => rw [List.map_cons, List.map_cons, ← ih]; rfl
theorem sort_strings (B id : Nat) (a : Option Addr) (n c : Nat) (xs : List ByteArray) (T : TypeId) (H : HL) (w : World) (hB : B ≤ w.heap.size) (hs : Sat B w H) (hr : Hx.look H id = some (.row a n c (encStr.enc xs) T 1)) (hn : 0 < n) (hsz : n < 4611686018427387904) :
    Calls Try.prog 55 #[.slice a n c] w fun e w' => e = .returned (.tuple #[]) ∧ Below B w w' ∧ Sat B w' ((id, .row a n c (encStr.enc (sortS xs)) T 1) :: H) ∧ B ≤ w'.heap.size ∧ Kd (fun _ => False) w w' := by
  have hok := hs.ok id _ hr
  obtain ⟨g, rfl⟩ := row_some hok hn
  have hlt := (Ent.own_lt hok (b := g) rfl).2
  have hlen : xs.length = n := by
    have h1 := hok.1
    rw [encStr_map, List.length_map, List.length_map] at h1
    omega
  subst hlen
  have h2 := row_holds hok
  rw [encStr_map, ← List.map_toArray] at h2
  have h := Any.slices_Sort_string lay190 g 0 c (xs.map bytesL) w (holds_id h2) hlt (by rw [List.length_map]; exact hsz)
  rw [List.length_map] at h
  change Calls Try.prog 55 _ _ _ at h
  refine h.mono ?_
  rintro e w' ⟨rfl, nd, os, rfl⟩
  have hw : Go.Sort.grow (Go.Sort.putRow Go.Proofs.encStr (Go.Sort.ahead w nd) g 0 ((xs.map bytesL).mergeSort fun x y => decide (x ≤ y)).toArray) os = putW w g nd (encStr.enc (sortS xs)) os := by
    unfold putW sortS
    rw [putRow_id, encStr_map, ← List.map_toArray, List.map_map]
    have h3 : (bytesL ∘ fun l : List UInt8 => (⟨l.toArray⟩ : ByteArray)) = _root_.id := by funext l; simp [bytesL]
    rw [h3, List.map_id]
  rw [hw]
  exact ⟨rfl, hs.sorted hB hr (by rw [encStr_map, encStr_map]; simp [sortS])⟩
end Go.Proofs.Ytfbmkepogcimlaa

/-
  More rules: append of a make, and an owned row cut to its beginning.
-/


namespace Go.Proofs.Ytfbmkepogcimlaa.Hx
open Go Go.RowKit
set_option linter.unusedVariables false
set_option linter.unusedSimpArgs false
section
variable {P : Program} {N : Fr} {B : Nat} {w0 : World} {Q : Exit → Act → World → Prop} {al : AL} {H : HL} {ops rest : List Oper} {d : Nat} {ty : TypeId} {pos : String} {after : Array Edge}
/-- append(nil, make([]T, n)...): n elements, and what they are is not told. -/
theorem ol_appendZ {s x : Operand} {t tn e : TypeId} {size bytes : Nat} {n : Int} (id : Nat) (hs : ev al s = some (.slice none 0 0)) (hx : ev al x = some (.int .i64 n)) (hT : RowT P t e size bytes) (htn : P.underlying tn = some (.int .i64))
    (h0 : 0 < n) (hb : n ≤ 9223372036854775807 ∧ n * bytes ≤ 140737488355328) (hd : Nat.blt d N.n = true)
    (k : ∀ a' cap' zs, n.toNat ≤ cap' → OL P N B w0 ops rest Q ((d, .slice a' n.toNat cap') :: al) ((id, .row a' n.toNat cap' zs e size) :: H)) :
    OL P N B w0 ops ({ dst := some d, op := .call { callee := .builtin .append, args := #[s, x], argTypes := #[t, tn] }, type := ty, pos, after, guard := none } :: rest) Q al H := by
  intro a0 w hst
  refine wpList_plain rfl fun K hK => ?_
  obtain ⟨hu, i, z, hi, hz, hsz, hby, hzs, hpos⟩ := hT
  obtain ⟨m, rfl⟩ : ∃ m : Nat, n = m := ⟨n.toNat, by omega⟩
  have hr := Lib.run_append_nil_zeros (P := P) w t tn ty e i z .i64 .i64 hu htn hi hz m (by omega) (by omega) (by omega) (by rw [hby]; have := hb.2; rw [← Int.natCast_mul] at this; omega)
  have hrun : (execOp a0.eval { dst := some d, op := .call { callee := .builtin .append, args := #[s, x], argTypes := #[t, tn] }, type := ty, pos, after, guard := none }).run P w = .ok (.value (.slice (some ⟨w.heap.size, 0, none⟩) m (grownCap w m 0 e))) (w.drew.alloc (.cells (Builtin.zeroCells z.cells m ++ Builtin.zeroCells z.cells (grownCap w m 0 e - m)) e)) := by
    simp [BigFrame.execOp_builtin, BigFrame.builtin_append, hst.regs.eval hs, hst.regs.eval hx, hr]
  unfold Oper.wp
  rw [hrun, Oper.upon_value]
  have hge := grownCap_ge w m 0 e
  have hcm : grownCap w m 0 e ≤ maxLen := grownCap_le_maxLen w m 0 e (by unfold maxLen; omega)
  refine hK _ _ (k (some ⟨w.heap.size, 0, none⟩) (grownCap w m 0 e) (Builtin.zeroCells z.cells m).toList (by simpa using hge) _ _ (hst.step (hst.regs.put (by simpa using hd) _) (hst.below.drew.alloc hst.base _) ?_ (by have := hst.base; simp; omega) (Kd.trans (w1 := w.drew) (fun k o h _ _ => h) (Kd.alloc w.drew _))))
  refine hst.sat.new id (e := .row (some ⟨w.heap.size, 0, none⟩) m (grownCap w m 0 e) (Builtin.zeroCells z.cells m).toList e size) ?_ (fun k hk => Below.heap_alloc w.drew _ k hk) (fun b hb => by simp [Ent.own] at hb; omega)
  refine ⟨by rw [Array.length_toList, size_zeroCells, hzs], .inr ⟨w.heap.size, _, _, rfl, hst.base, heap_alloc_new w.drew _, hge, hcm, ?_, ?_⟩⟩
  · simp only [Array.size_append, size_zeroCells, hzs, ← Nat.add_mul]
    congr 1
    omega
  · rw [Array.toList_append, show m * size = (Builtin.zeroCells z.cells m).toList.length by rw [Array.length_toList, size_zeroCells, hzs]]
    exact List.take_left
theorem sliced_zero (a : Option Addr) (h cap size : Nat) : sliced a 0 h cap size = .slice a h cap := by
  unfold sliced
  cases a with
  | none => simp
  | some p => simp [add_none, Addr.add]
/-- An owned row's first elements. -/
theorem Sat.cut {w : World} {id n cap h : Nat} {a : Option Addr} {xs : List Value} {e : TypeId} {size : Nat} (hs : Sat B w H) (hr : look H id = some (.row a n cap xs e size)) (hh : h ≤ n) : Sat B w ((id, .row a h cap (xs.take (h * size)) e size) :: H) := by
  refine hs.turn hr ?_ (fun _ _ _ => rfl) (fun b hb => .inl hb)
  obtain ⟨h1, h2⟩ := hs.ok _ _ hr
  refine ⟨by rw [List.length_take, h1]; exact Nat.min_eq_left (Nat.mul_le_mul_right _ hh), ?_⟩
  rcases h2 with ⟨hv, h2⟩ | ⟨g, cap', cur, hv, hb, hg, hnc, hcm, hcs, htake⟩
  · cases hv
    obtain rfl : h = 0 := by omega
    exact .inl ⟨rfl, rfl⟩
  · cases hv
    exact .inr ⟨g, cap, cur, rfl, hb, hg, by omega, hcm, hcs, by rw [← htake, List.take_take, Nat.min_eq_left (Nat.mul_le_mul_right _ hh)]⟩
theorem r_capn {s : Operand} {t : TypeId} {p : Option Addr} {n cap size : Nat} (hs : ev al s = some (.slice p n cap)) (hT : Slc P t size) :
    Runs P N B w0 (.call { callee := .builtin .cap, args := #[s], argTypes := #[t] }) ty al H (.int .i64 cap) := fun a w hst => by
  obtain ⟨e, hu, hz⟩ := hT
  simp [BigFrame.execOp_builtin, BigFrame.builtin_cap, hst.regs.eval hs, Builtin.cap_, run_underlying hu, goInt]
theorem r_min3 {x y z : Operand} {tys : Array TypeId} {m n l : Int} (hx : ev al x = some (.int .i64 m)) (hy : ev al y = some (.int .i64 n)) (hz : ev al z = some (.int .i64 l)) :
    Runs P N B w0 (.call { callee := .builtin .min, args := #[x, y, z], argTypes := tys }) ty al H (.int .i64 (min (min m n) l)) := fun a w hst => by
  have h1 : (if n < m then n else m) = min m n := by rw [Int.min_def]; split <;> split <;> omega
  have h2 : (if l < min m n then l else min m n) = min (min m n) l := by rw [Int.min_def (min m n)]; split <;> split <;> omega
  simp [BigFrame.execOp_builtin, BigFrame.builtin_min, hst.regs.eval hx, hst.regs.eval hy, hst.regs.eval hz, Builtin.min_, Builtin.min2, h1, h2]
theorem ol_cutO {s : Operand} {hi : Operand} {id n cap : Nat} {h : Int} {a : Option Addr} {xs : List Value} {t e : TypeId} {size : Nat} (hs : ev al s = some (.slice a n cap)) (hr : look H id = some (.row a n cap xs e size)) (hhi : evo al (some hi) = some (some h)) (hT : Slc P t size)
    (h0 : 0 ≤ h ∧ h ≤ n) (hc : n ≤ cap) (hd : Nat.blt d N.n = true)
    (k : OL P N B w0 ops rest Q ((d, .slice a h.toNat cap) :: al) ((id, .row a h.toNat cap (xs.take (h.toNat * size)) e size) :: H)) :
    OL P N B w0 ops ({ dst := some d, op := .slice t s none (some hi) none, type := ty, pos, after, guard := none } :: rest) Q al H := by
  have hr1 := r_sl (P := P) (N := N) (B := B) (w0 := w0) (H := H) (ty := ty) hs (lo := none) (l := none) (hi := some hi) rfl hhi hT (by simp; omega) hc
  refine ol_r hr1 hd ?_
  have e1 : sliced a ((none : Option Int).getD 0).toNat ((some h).getD (n : Int)).toNat cap size = .slice a h.toNat cap := sliced_zero _ _ _ _
  rw [e1]
  exact fun a1 w hst => k a1 w (hst.step hst.regs hst.below (hst.sat.cut hr (by omega)) hst.base (Kd.refl _ _))
def Kle (H : HL) (ks : List (Nat × Nat)) (H' : HL) : Prop := ∀ j e, look H' j = some e → ∃ i f, (i, j) ∈ ks ∧ look H i = some f ∧ e.le f
theorem kle_nil {H : HL} : Kle H [] [] := fun j e h => by simp [look] at h
theorem kle_cons {H H' : HL} {i k : Nat} {e f : Ent} {ks : List (Nat × Nat)} (h : look H i = some f) (hl : e.le f) (hk : Kle H ks H') : Kle H ((i, k) :: ks) ((k, e) :: H') := fun j g hj => by
  by_cases hkj : k = j
  · subst hkj; rw [look_cons_eq] at hj; cases hj; exact ⟨i, f, by simp, h, hl⟩
  · rw [look_cons_ne _ _ hkj] at hj
    obtain ⟨i', f', h1, h2, h3⟩ := hk j g hj
    exact ⟨i', f', by simp [h1], h2, h3⟩
theorem Sat.kle {B : Nat} {H H' : HL} {w : World} (h : Sat B w H) (ks : List (Nat × Nat)) (hk : Kle H ks H') (hd : ∀ p ∈ ks, ∀ q ∈ ks, p.1 = q.1 → p.2 = q.2) : Sat B w H' :=
  ⟨fun j e he => by obtain ⟨i, f, _, h2, h3⟩ := hk j e he; exact h3.ok (h.ok i f h2), fun j j' e f hj he hf b hb => by
    obtain ⟨i, g, a1, a2, a3⟩ := hk j e he
    obtain ⟨i', g', b1, b2, b3⟩ := hk j' f hf
    exact fun hb' => h.apart i i' g g' (fun hii => hj (hd _ a1 _ b1 hii)) a2 b2 b (a3.own hb) (b3.own hb')⟩
theorem row_le {a : Option Addr} {n c s : Nat} {xs ys : List Value} {e : TypeId} (h : xs = ys) : (Ent.row a n c xs e s).le (.row a n c ys e s) := by subst h; exact Ent.le_refl _
end
end Go.Proofs.Ytfbmkepogcimlaa.Hx

/-
  More rules: an append of all of a slice to a slice of one's own.
-/

namespace Go.Proofs.Ytfbmkepogcimlaa.Hx
open Go Go.RowKit
set_option linter.unusedVariables false
set_option linter.unusedSimpArgs false
section
variable {P : Program} {N : Fr} {B : Nat} {w0 : World} {Q : Exit → Act → World → Prop} {al : AL} {H : HL} {ops rest : List Oper} {d : Nat} {ty : TypeId} {pos : String} {after : Array Edge}
theorem run_append0 {t e : TypeId} {size bytes n cap c : Nat} {a : Option Addr} {w : World} (hT : RowT P t e size bytes) (hc : n ≤ cap) :
    (Builtin.append_ #[t, t] ty #[.slice a n cap, .slice none 0 c]).run P w = .ok (.slice a n cap) w := by
  obtain ⟨hu, i, z, hi, hz, hsz, hby, hzz, hpos⟩ := hT
  cases a <;> simp [Builtin.append_, run_underlying hu, sizeOf, typeInfo, hi, Builtin.lenOf, Builtin.firstCells, hc, storeCells]
theorem Sat.again {w : World} {id : Nat} {e : Ent} (hs : Sat B w H) (hr : look H id = some e) : Sat B w ((id, e) :: H) :=
  ⟨fun i f hf => hs.ok i f (by
    by_cases h : id = i
    · subst h; rw [look_cons_eq] at hf; rw [hr]; exact hf
    · rwa [look_cons_ne _ _ h] at hf), fun i j f g hij hf hg => hs.apart i j f g hij (by
    by_cases h : id = i
    · subst h; rw [look_cons_eq] at hf; rw [hr]; exact hf
    · rwa [look_cons_ne _ _ h] at hf) (by
    by_cases h : id = j
    · subst h; rw [look_cons_eq] at hg; rw [hr]; exact hg
    · rwa [look_cons_ne _ _ h] at hg)⟩
theorem ol_append0 {s x : Operand} {id n cap c : Nat} {a : Option Addr} {xs : List Value} {t e : TypeId} {size bytes : Nat} (hs : ev al s = some (.slice a n cap)) (hr : look H id = some (.row a n cap xs e size))
    (hx : ev al x = some (.slice none 0 c)) (hT : RowT P t e size bytes) (hd : Nat.blt d N.n = true)
    (k : OL P N B w0 ops rest Q ((d, .slice a n cap) :: al) ((id, .row a n cap xs e size) :: H)) :
    OL P N B w0 ops ({ dst := some d, op := .call { callee := .builtin .append, args := #[s, x], argTypes := #[t, t] }, type := ty, pos, after, guard := none } :: rest) Q al H := by
  intro a0 w hst
  have hok : w.ownsRow B e size (.slice a n cap) n xs := hst.sat.ok _ _ hr
  have hc : n ≤ cap := by
    rcases hok.2 with ⟨h1, h2⟩ | ⟨g, cap', cur, hv, hb, hg, h3, h4, h5⟩
    · omega
    · cases hv; exact h3
  refine ol_r (v := .slice a n cap) (fun a w hst => ?_) hd (fun a w hst => k a w ⟨hst.regs, hst.below, hst.sat.again hr, hst.base, hst.kd, hst.marks⟩) a0 w hst
  simp [BigFrame.execOp_builtin, BigFrame.builtin_append, hst.regs.eval hs, hst.regs.eval hx, run_append0 (ty := ty) hT hc]
theorem ol_appendR {α : Type} (E : Enc α) {s x : Operand} {id n cap m c : Nat} {a ad : Option Addr} {xs ys : List α} {t e : TypeId} {size bytes : Nat} (hl : Rd E B w0 ad m c ys) (hs : ev al s = some (.slice a n cap)) (hr : look H id = some (.row a n cap (E.enc xs) e size))
    (hx : ev al x = some (.slice ad m c)) (hz : size = E.size) (hT : RowT P t e size bytes)
    (hb : n + m ≤ 9223372036854775807 ∧ (n + m) * bytes ≤ 140737488355328) (hd : Nat.blt d N.n = true)
    (k : ∀ a' cap', OL P N B w0 ops rest Q ((d, .slice a' (n + m) cap') :: al) ((id, .row a' (n + m) cap' (E.enc (xs ++ ys)) e size) :: H)) :
    OL P N B w0 ops ({ dst := some d, op := .call { callee := .builtin .append, args := #[s, x], argTypes := #[t, t] }, type := ty, pos, after, guard := none } :: rest) Q al H := by
  have hlen := hl.len
  cases ad with
  | none =>
    have hm : m = 0 := by
      cases m with
      | zero => rfl
      | succ m => have := hl.isSome (by omega); simp at this
    subst hm
    have hys : ys = [] := List.eq_nil_of_length_eq_zero hlen
    subst hys
    refine ol_append0 hs hr hx hT hd ?_
    have h := k a cap
    simpa using h
  | some p =>
    refine ol_append (id := id) (news := E.enc ys) hs hr hx hT (by rw [Enc.enc_len, hlen, hz]) (E.ones_enc ys) (fun w1 hb1 hs1 hB1 => ⟨p, rfl, (hl.below hb1).flat rfl⟩) hb hd fun a' c' => ?_
    have h := k a' c'
    rwa [Enc.enc_append] at h
theorem ol_appendO {α : Type} (E : Enc α) {s x : Operand} {id id2 n cap m c : Nat} {a ad : Option Addr} {xs ys : List α} {t e : TypeId} {size bytes : Nat} (hs : ev al s = some (.slice a n cap)) (hr : look H id = some (.row a n cap (E.enc xs) e size))
    (hx : ev al x = some (.slice ad m c)) (hr2 : look H id2 = some (.row ad m c (E.enc ys) e size)) (hz : size = E.size) (hT : RowT P t e size bytes)
    (hb : n + m ≤ 9223372036854775807 ∧ (n + m) * bytes ≤ 140737488355328) (hd : Nat.blt d N.n = true)
    (k : ∀ a' cap', OL P N B w0 ops rest Q ((d, .slice a' (n + m) cap') :: al) ((id, .row a' (n + m) cap' (E.enc (xs ++ ys)) e size) :: H)) :
    OL P N B w0 ops ({ dst := some d, op := .call { callee := .builtin .append, args := #[s, x], argTypes := #[t, t] }, type := ty, pos, after, guard := none } :: rest) Q al H := by
  intro a0 w hst
  have hl : Rd E w.heap.size w ad m c ys := hst.sat.rd hr2 hz
  have hlen := hl.len
  cases ad with
  | none =>
    have hm : m = 0 := by
      cases m with
      | zero => rfl
      | succ m => have := hl.isSome (by omega); simp at this
    subst hm
    have hys : ys = [] := List.eq_nil_of_length_eq_zero hlen
    subst hys
    refine ol_append0 hs hr hx hT hd ?_ a0 w hst
    have h := k a cap
    simpa using h
  | some p =>
    refine ol_append (id := id) (news := E.enc ys) hs hr hx hT (by rw [Enc.enc_len, hlen, hz]) (E.ones_enc ys) (fun w1 hb1 hs1 hB1 => ⟨p, rfl, (hs1.rd hr2 hz).flat rfl⟩) hb hd (fun a' c' => ?_) a0 w hst
    have h := k a' c'
    rwa [Enc.enc_append] at h
end
section
variable {P : Program} {N : Fr} {B : Nat} {w0 : World} {Q : Exit → Act → World → Prop} {Ss : List (Nat × HL)} {ops : Array Oper} {listed : Array Bool} {n : Nat} {al : AL} {H : HL} {d : Nat} {ty : TypeId} {pos : String} {after : Array Edge} {Hj : HL}
/-- A part of a slice that is only read, in free order. -/
theorem aq_slr {α : Type} {xs : List α} {a : Option Addr} {m cap : Nat} {t : TypeId} {s : Operand} {lo hi : Option Operand} {l h : Option Int} {E : Enc α} (i j : Nat) (hi' : ops[i]? = some { dst := some d, op := .slice t s lo hi none, type := ty, pos, after, guard := none }) (hs : Region.noSelect ops = true) (hf : Region.free .any ops listed i = true) (hr : (Region.ready .any ops listed).contains i = true)
    (hm : (j, Hj) ∈ Ss) (hw : (Region.waitsFor .any ops j i || Nat.ble ops.size j) = true) (hn : (Ss.map (·.1)).contains i = false) (hd : Nat.blt d N.n = true)
    (hl : Rd E B w0 a m cap xs) (h1 : ev al s = some (.slice a m cap)) (hlo : evo al lo = some l) (hhi : evo al hi = some h) (hT : Slc P t E.size) (h0 : 0 ≤ l.getD 0 ∧ l.getD 0 ≤ h.getD m ∧ h.getD m ≤ m)
    (k : ∀ a' c', Rd E B w0 a' ((h.getD m).toNat - (l.getD 0).toNat) c' ((xs.drop (l.getD 0).toNat).take ((h.getD m).toNat - (l.getD 0).toNat)) → AQ P N B w0 ops Q Ss n (listed.setIfInBounds i true) ((d, .slice a' ((h.getD m).toNat - (l.getD 0).toNat) c') :: al) H) : AQ P N B w0 ops Q Ss (n + 1) listed al H := by
  obtain ⟨a', c', h2, h3⟩ := hl.part (l := (l.getD 0).toNat) (h := (h.getD m).toNat) (by omega) (by omega)
  have hr' := r_sl (P := P) (N := N) (B := B) (w0 := w0) (H := Hj) (ty := ty) (lo := lo) (hi := hi) h1 hlo hhi hT ⟨h0.1, h0.2.1, by have := hl.room; omega⟩ hl.room.1
  rw [h2] at hr'
  exact aq_r i j hi' hs hf hr hm hw hn hd hr' (k a' c' h3)
end
end Go.Proofs.Ytfbmkepogcimlaa.Hx

/-
  slices.Sort and slices.Compact of names: the library's contracts, laid at this program.
-/






namespace Go.Proofs.Ytfbmkepogcimlaa
open Go Go.RowKit Hx
set_option linter.unusedVariables false
set_option linter.unusedSimpArgs false
set_option maxRecDepth 8000
theorem sortS_nil : sortS [] = [] := by simp [sortS]
theorem map_of_bytes (ls : List (List UInt8)) : (ls.map ofB).map bytesL = ls := by
  have h3 : (bytesL ∘ ofB) = _root_.id := by funext l; simp [bytesL, ofB]
  rw [List.map_map, h3, List.map_id]
theorem str_len {B n c : Nat} {w : World} {a : Option Addr} {xs : List ByteArray} {e : TypeId} (h : w.ownsRow B e 1 (.slice a n c) n (encStr.enc xs)) : xs.length = n := by
  have h1 := h.1
  rw [encStr_map, List.length_map, List.length_map] at h1
  omega
theorem sort_names (B id : Nat) (a : Option Addr) (n c : Nat) (xs : List ByteArray) (T : TypeId) (H : HL) (w : World) (hB : B ≤ w.heap.size) (hs : Sat B w H) (hr : Hx.look H id = some (.row a n c (encStr.enc xs) T 1)) (hsz : n < 4611686018427387904) :
    Calls Try.prog 55 #[.slice a n c] w fun e w' => e = .returned (.tuple #[]) ∧ Below B w w' ∧ Sat B w' ((id, .row a n c (encStr.enc (sortS xs)) T 1) :: H) ∧ B ≤ w'.heap.size ∧ Kd (fun _ => False) w w' := by
  by_cases hn : n = 0
  · subst hn
    obtain rfl : xs = [] := List.eq_nil_of_length_eq_zero (str_len (hs.ok id _ hr))
    have h := Any.slices_Sort_string_none lay190 a c w
    change Calls Try.prog 55 _ _ _ at h
    refine h.mono ?_
    rintro e w' ⟨rfl, rfl⟩
    exact ⟨rfl, Below.refl _ _, by rw [sortS_nil]; exact hs.again hr, hB, Kd.refl _ _⟩
  · exact sort_strings B id a n c xs T H w hB hs hr (by omega) hsz
def compS (xs : List ByteArray) : List ByteArray := (Go.Lib.compact (xs.map bytesL)).map ofB
theorem compS_nil : compS [] = [] := by simp [compS, Go.Lib.compact, Go.Lib.compactUpTo]
theorem compS_sort (xs : List ByteArray) : compS (sortS xs) = ordBA xs := by
  unfold compS sortS ordBA
  have h := map_of_bytes ((xs.map bytesL).mergeSort fun x y => decide (x ≤ y))
  show (Go.Lib.compact ((((xs.map bytesL).mergeSort fun x y => decide (x ≤ y)).map ofB).map bytesL)).map ofB = _
  rw [h]
  rfl
theorem encStr_bytes (ls : List (List UInt8)) : encStr.enc (ls.map ofB) = ls.map Go.Proofs.encStr := by
  rw [encStr_map, map_of_bytes]
def layC194_ren : Go.Shelf.Ren := ⟨fun | 0 => 0 | 1 => 1 | 2 => 2 | 106 => 88 | 111 => 14 | 122 => 75 | 125 => 83 | 128 => 118 | 129 => 119 | 134 => 128 | 190 => 55 | 193 => 26 | 194 => 56 | 213 => 121 | 215 => 106 | 258 => 82 | 264 => 94 | 265 => 143 | 302 => 109 | 303 => 110 | 304 => 111 | 305 => 112 | 306 => 113 | 307 => 114 | 308 => 115 | 309 => 116 | 310 => 117 | 329 => 136 | 330 => 137 | 333 => 135 | 334 => 138 | 335 => 139 | 336 => 140 | 344 => 146 | 347 => 149 | 348 => 150 | 349 => 151 | 350 => 152 | 351 => 153 | 352 => 154 | 353 => 155 | 354 => 156 | 355 => 157 | 356 => 158 | 357 => 159 | 358 => 160 | 359 => 161 | 360 => 162 | 361 => 163 | 363 => 164 | 366 => 165 | n => n, fun | 0 => 0 | 1 => 1 | 2 => 2 | 3 => 3 | 4 => 4 | 5 => 5 | 6 => 6 | 7 => 7 | 8 => 8 | 9 => 9 | 10 => 10 | 11 => 11 | 12 => 12 | 13 => 13 | 14 => 14 | 15 => 15 | 16 => 16 | 17 => 17 | 18 => 18 | 19 => 19 | 20 => 20 | 21 => 21 | 22 => 198 | 27 => 160 | 28 => 61 | 31 => 55 | 34 => 64 | 41 => 130 | 43 => 141 | 46 => 152 | 47 => 151 | 51 => 202 | 52 => 201 | 53 => 170 | 54 => 203 | 74 => 205 | 75 => 206 | 80 => 225 | 81 => 231 | 100 => 120 | 101 => 88 | 102 => 121 | 104 => 95 | 111 => 98 | 127 => 235 | 131 => 139 | 135 => 150 | 143 => 224 | 144 => 240 | 145 => 241 | 148 => 171 | 149 => 172 | 164 => 242 | 182 => 194 | 183 => 195 | 188 => 193 | 189 => 196 | 190 => 197 | 191 => 199 | 192 => 200 | 218 => 213 | 219 => 214 | 220 => 215 | 222 => 217 | 224 => 216 | 225 => 218 | 228 => 222 | 229 => 145 | 231 => 223 | 238 => 226 | 239 => 227 | 240 => 228 | 241 => 229 | 242 => 230 | 243 => 232 | 244 => 233 | 245 => 234 | 246 => 236 | 247 => 237 | 248 => 238 | 249 => 239 | n => n, fun n => n⟩
theorem layC194 : Go.Proofs.Lays.n194 Try.prog layC194_ren := { mixed := by kernel_rfl, f194 := Try.func56.trans (congrArg some (by kernel_rfl)), t0 := Try.underlying0, a0 := Try.isAgg0, z0 := Try.sizeOf0, v0 := Try.zeroValue0, t3 := Try.underlying3, a3 := Try.isAgg3, z3 := Try.sizeOf3, v3 := Try.zeroValue3, t4 := Try.underlying4, a4 := Try.isAgg4, z4 := Try.sizeOf4, v4 := Try.zeroValue4, t9 := Try.underlying9, a9 := Try.isAgg9, z9 := Try.sizeOf9, v9 := Try.zeroValue9, t31 := Try.underlying55, a31 := Try.isAgg55, z31 := Try.sizeOf55, v31 := Try.zeroValue55 }

theorem compact_names (B id : Nat) (a : Option Addr) (n c : Nat) (xs : List ByteArray) (T : TypeId) (H : HL) (w : World) (hB : B ≤ w.heap.size) (hs : Sat B w H) (hr : Hx.look H id = some (.row a n c (encStr.enc xs) T 1)) (hsz : n ≤ 9223372036854775807) :
    Calls Try.prog 56 #[.slice a n c] w fun e w' => e = .returned (.slice a (compS xs).length c) ∧ Below B w w' ∧ Sat B w' ((id, .row a (compS xs).length c (encStr.enc (compS xs)) T 1) :: H) ∧ B ≤ w'.heap.size ∧ Kd (fun _ => False) w w' := by
  have hok := hs.ok id _ hr
  by_cases hn : n = 0
  · subst hn
    obtain rfl : xs = [] := List.eq_nil_of_length_eq_zero (str_len hok)
    have h := Any.slices_Compact_string_empty layC194 a c w
    change Calls Try.prog 56 _ _ _ at h
    refine h.mono ?_
    rintro e w' ⟨rfl, rfl⟩
    exact ⟨by rw [compS_nil]; rfl, Below.refl _ _, by rw [compS_nil]; exact hs.again hr, hB, Kd.refl _ _⟩
  have hcap : n ≤ c := by
    rcases hok.2 with ⟨h1, h2⟩ | ⟨g, cap', cur, hv, hb, hg, h3, h4, h5⟩
    · omega
    · cases hv; exact h3
  obtain ⟨g, rfl⟩ := row_some hok (by omega)
  have hlen := str_len hok
  subst hlen
  have h2 := row_holds hok
  rw [encStr_map, ← List.map_toArray] at h2
  have h := Any.slices_Compact_string layC194 g 0 c (xs.map bytesL) w (holds_id h2) (by rw [List.length_map]; exact hsz) (by rw [List.length_map]; exact hcap)
  rw [List.length_map] at h
  change Calls Try.prog 56 _ _ _ at h
  refine h.mono ?_
  rintro e w' ⟨rfl, q, rfl⟩
  have hcl := compact_len (xs.map bytesL)
  rw [List.length_map] at hcl
  have hw : Go.Sort.putRow Go.Proofs.encStr (Go.Sort.ahead w q) g 0 (Go.Lib.compact (xs.map bytesL) ++ List.replicate (xs.length - (Go.Lib.compact (xs.map bytesL)).length) []).toArray = putW w g q (encStr.enc ((Go.Lib.compact (xs.map bytesL) ++ List.replicate (xs.length - (Go.Lib.compact (xs.map bytesL)).length) []).map ofB)) #[] := by
    unfold putW
    rw [Go.Sort.grow_empty, putRow_id, encStr_bytes, ← List.map_toArray]
  rw [hw]
  have h3 := hs.sorted (nd := q) (os := #[]) (vs' := encStr.enc ((Go.Lib.compact (xs.map bytesL) ++ List.replicate (xs.length - (Go.Lib.compact (xs.map bytesL)).length) []).map ofB)) hB hr (by rw [encStr_bytes, encStr_map, List.length_map, List.length_map, List.length_map, List.length_append, List.length_replicate]; omega)
  have hcs : (compS xs).length = (Go.Lib.compact (xs.map bytesL)).length := List.length_map _
  refine ⟨by rw [hcs], h3.1, ?_, h3.2.2⟩
  have h4 := (h3.2.1.cut (id := id) (look_cons_eq _ _ _) (h := (compS xs).length) (by rw [hcs]; exact hcl)).shadow
  have h5 : (encStr.enc ((Go.Lib.compact (xs.map bytesL) ++ List.replicate (xs.length - (Go.Lib.compact (xs.map bytesL)).length) []).map ofB)).take ((compS xs).length * 1) = encStr.enc (compS xs) := by
    rw [List.map_append, Enc.enc_append, Nat.mul_one]
    exact List.take_left' (by rw [encStr_map, List.length_map, List.length_map]; rfl)
  rw [h5] at h4
  exact h4
end Go.Proofs.Ytfbmkepogcimlaa

/-
  cmp.Or of error codes.
-/



namespace Go.Proofs.Ytfbmkepogcimlaa
open Go Go.RowKit Hx
set_option linter.unusedVariables false
set_option linter.unusedSimpArgs false
set_option maxRecDepth 8000
def orR : List Int → Int
  | [] => 0
  | x :: r => if x ≠ 0 then x else orR r
theorem orR_two (x y : Int) : orR [x, y] = if x ≠ 0 then x else y := by
  by_cases h : x = 0 <;> by_cases h1 : y = 0 <;> simp [orR, h, h1]
theorem orR2 {x y : Int} (h : ¬orR [x, y] ≠ 0) : x = 0 ∧ y = 0 := by
  have h := Decidable.not_not.1 h
  rw [orR_two] at h
  by_cases h1 : x = 0
  · rw [if_neg (fun h2 => h2 h1)] at h; exact ⟨h1, h⟩
  · rw [if_pos h1] at h; exact absurd h h1
theorem cmp_Or (a : Option Addr) (n cap : Nat) (xs : List Int) (w : World) (hl : Rd encI w.heap.size w a n cap xs) :
    Calls Try.prog 53 #[.slice a n cap] w fun e w' => e = .returned (.int .i64 (orR xs)) ∧ Below w.heap.size w w' := by
  have hn := hl.len
  have hfit := hl.fit
  subst hn
  refine enterQ (N := 18) (C := fun _ => True) (H := []) (B := w.heap.size) (args := [_]) Try.func53 rfl rfl rfl (Nat.le_refl _) (Sat.nil _ _) fun Q hQ => ?_
  refine wp_seq' fun K1 hK1 => ?_
  refine wp_reg ?_
  refine ol_r (r_assign rfl) rfl ?_
  refine ol_nil (to_k0 (fun _ _ h => h) (hK1 _ _ _ _ _ ?_))
  clear hK1
  refine wp_seq' fun K2 hK2 => ?_
  refine wp_reg ?_
  refine ol_r (r_assign rfl) rfl ?_
  refine ol_nil (to_k0 (fun _ _ h => h) (hK2 _ _ _ _ _ ?_))
  clear hK2
  refine wp_seq' fun K3 hK3 => ?_
  refine wp_seq' fun K4 hK4 => ?_
  refine wp_reg ?_
  refine ol_r (r_move rfl) rfl ?_
  refine ol_r (r_len rfl sl148) rfl ?_
  refine ol_r (r_move rfl) rfl ?_
  refine ol_nil (to_k0 (fun _ _ h => h) (hK4 _ _ _ _ _ ?_))
  clear hK4
  refine wp_block' ?_
  apply wp_loopM (σ := Nat) (fun s => s ≤ xs.length ∧ orR xs = orR (xs.drop s)) (fun s => [(8, .int .i64 s)]) [(3, _), (6, _), (7, _)] (fun s => []) [] (fun s => xs.length - s) (0)
  ·try dsimp only
   exact ⟨Nat.zero_le _, rfl⟩
  ·exact (sub_cons rfl sub_nil)
  ·exact (sub_cons rfl (sub_cons rfl (sub_cons rfl sub_nil)))
  ·exact subH_nil
  ·exact subH_nil
  ·rintro k ⟨hk, hP⟩
   intro K5 hK5
   refine wp_seq' fun K6 hK6 => ?_
   refine wp_reg ?_
   refine ol_r (r_lss rfl rfl) rfl ?_
   refine ol_nil (to_k0 (fun _ _ h => h) (hK6 _ _ _ _ _ ?_))
   clear hK6
   refine wp_seq' fun K7 hK7 => ?_
   first | refine wp_condD rfl (fun hc9 => ?_) (fun hc9 => ?_) | refine wp_condN rfl (fun hc9 => ?_) (fun hc9 => ?_) | refine wp_condNB rfl (fun hc9 => ?_) (fun hc9 => ?_) | refine wp_cond' rfl (fun hc9 => ?_) (fun hc9 => ?_)
   ·refine wp_skip' (to_k0 (fun _ _ h => h) (hK7 _ _ _ _ _ ?_))
    clear hK7
    refine wp_seq' fun K8 hK8 => ?_
    refine wp_block' ?_
    refine wp_seq' fun K9 hK9 => ?_
    refine wp_reg ?_
    refine ol_ixr hl rfl rfl sl148 (by omega) rfl fun x10 hx10 => ?_
    try simp only [Int.toNat_natCast] at hx10
    refine ol_r (r_ldw rfl (fun w1 hb1 hs1 hB1 => show Loads _ _ _ _ (.int .i64 x10) from Rd.loads hl ty29 hx10 hb1)) rfl ?_
    refine ol_r (r_assign rfl) rfl ?_
    refine ol_nil (to_k0 (fun _ _ h => h) (hK9 _ _ _ _ _ ?_))
    clear hK9
    refine wp_seq' fun K10 hK10 => ?_
    refine wp_reg ?_
    refine ol_r (r_move rfl) rfl ?_
    refine ol_r (r_move rfl) rfl ?_
    refine ol_r (r_neq rfl rfl) rfl ?_
    refine ol_nil (to_k0 (fun _ _ h => h) (hK10 _ _ _ _ _ ?_))
    clear hK10
    first | refine wp_condD rfl (fun hc14 => ?_) (fun hc14 => ?_) | refine wp_condN rfl (fun hc14 => ?_) (fun hc14 => ?_) | refine wp_condNB rfl (fun hc14 => ?_) (fun hc14 => ?_) | refine wp_cond' rfl (fun hc14 => ?_) (fun hc14 => ?_)
    ·refine wp_seq' fun K11 hK11 => ?_
     refine wp_reg ?_
     refine ol_r (r_move rfl) rfl ?_
     refine ol_r (r_assign rfl) rfl ?_
     refine ol_nil (to_k0 (fun _ _ h => h) (hK11 _ _ _ _ _ ?_))
     clear hK11
     refine hQ.ret (rvs1 (rv_t rfl)) (fun _ _ h => h) fun w hb hs hB hkd => ?_
     first
       | (refine ⟨by rw [hP, List.drop_eq_nil_of_le (by omega)]; rfl, hb⟩; done)
       | (refine ⟨by rw [hP, drop_cons_get hx10, show orR (x10 :: xs.drop (k + 1)) = x10 from if_pos hc14], hb⟩; done)
    ·refine wp_skip' (to_k0 (fun _ _ h => h) (hK8 _ _ _ _ _ ?_))
     clear hK8
     refine wp_reg ?_
     refine ol_r (r_add rfl rfl (by omega)) rfl ?_
     refine ol_r (r_move rfl) rfl ?_
     refine ol_nil (to_k0 (fun _ _ h => h) (hK5 (k + 1) _ _ ?_ ?_ (sub_cons rfl sub_nil) (sub_cons rfl (sub_cons rfl (sub_cons rfl sub_nil))) (by exact subH_nil) subH_nil))
     ·try dsimp only
      refine ⟨by omega, ?_⟩
      rw [hP, drop_cons_get hx10]
      exact if_neg hc14
     ·try dsimp only
      omega
   ·refine wp_exit' (to_k0 (fun _ _ h => h) (hK3 _ _ _ _ _ ?_))
    clear hK3
    refine wp_seq' fun K12 hK12 => ?_
    refine wp_reg ?_
    refine ol_r (r_move rfl) rfl ?_
    refine ol_r (r_assign rfl) rfl ?_
    refine ol_nil (to_k0 (fun _ _ h => h) (hK12 _ _ _ _ _ ?_))
    clear hK12
    refine hQ.ret (rvs1 (rv_t rfl)) (fun _ _ h => h) fun w hb hs hB hkd => ?_
    first
      | (refine ⟨by rw [hP, List.drop_eq_nil_of_le (by omega)]; rfl, hb⟩; done)
      | (refine ⟨by rw [hP, drop_cons_get hx10, show orR (x10 :: xs.drop (k + 1)) = x10 from if_pos hc14], hb⟩; done)
end Go.Proofs.Ytfbmkepogcimlaa

/-
  Join: what both sides use.
-/



namespace Go.Proofs.Ytfbmkepogcimlaa
open Go Go.RowKit Hx
set_option linter.unusedVariables false
set_option linter.unusedSimpArgs false
set_option maxRecDepth 8000
theorem joinR_e {a b : ActD} (h : orR [chkA a, chkA b] ≠ 0) : joinR a b = (noA, orR [chkA a, chkA b]) := by
  rw [orR_two] at h ⊢
  by_cases h1 : chkA a = 0
  · rw [if_neg (fun h => h h1)] at h ⊢
    exact joinR_b (fun h => h h1) h
  · rw [if_pos h1]; exact joinR_a h1
theorem join_mem {us vs : List SmpR} {by_ : Int} {x : SmpR} : ∀ {k : Nat}, x ∈ joinK us vs by_ k → x ∈ us ∨ ∃ y ∈ vs, x = y.fwd by_
  | 0, h => .inl h
  | k + 1, h => by
    cases hs : vs[k]? with
    | none => rw [joinK, hs] at h; exact join_mem h
    | some s =>
      by_cases hc : 0 < k ∨ us.length = 0 ∨ spanL us < s.at_ + by_
      · rw [joinK_yes hs hc, List.mem_append] at h
        rcases h with h | h
        · exact join_mem h
        · simp at h; exact .inr ⟨s, List.mem_of_getElem? hs, h⟩
      · rw [joinK_no hs hc] at h; exact join_mem h
theorem join_names {us vs : List LapR} {by_ : Int} {N : Nat} (ha : ∀ x ∈ us, x.name.size ≤ N) (hb : ∀ x ∈ vs, x.name.size ≤ N) : ∀ x ∈ us ++ fwdL by_ vs, x.name.size ≤ N := by
  intro x hx
  rcases List.mem_append.1 hx with h | h
  · exact ha x h
  · obtain ⟨y, hy, rfl⟩ := List.mem_map.1 h
    exact hb y hy
theorem join_tags {us vs : List ByteArray} {N : Nat} (ha : ∀ x ∈ us, x.size ≤ N) (hb : ∀ x ∈ vs, x.size ≤ N) : ∀ x ∈ tagR us vs, x.size ≤ N := by
  intro x hx
  rcases (mem_tagR _ _ _).1 hx with h | h
  · exact ha x h
  · exact hb x h
theorem join_lo {A D : ActD} (ha : GoodA A) (hd : GoodA D) (k : Nat) : ∀ x ∈ joinK A.ss D.ss (D.start - A.start) k, -9223372036854775808 ≤ x.at_ ∧ x.at_ ≤ 9223372036854775807 := by
  intro x hx
  have h1 := inB_iff.1 ha.head.2.2.1
  have h2 := inB_iff.1 hd.head.2.2.1
  rcases join_mem hx with h | ⟨y, h, rfl⟩
  · have := ha.smp.bd x h; omega
  · have := hd.smp.bd y h
    show -9223372036854775808 ≤ y.at_ + _ ∧ y.at_ + _ ≤ _
    omega
end Go.Proofs.Ytfbmkepogcimlaa
