/-
  Contracts of functions of package slices, at int.
-/
import Derived.Test.YtamlldedmhkobaaEnc
import Derived.Test.YtamlldedmhkobaaLoadM
namespace Go.Proofs.Ytamlldedmhkobaa
open Go Go.RowKit Hx
set_option linter.unusedVariables false
set_option linter.unusedSimpArgs false

theorem list_ne_of_get {α : Type} {xs ys : List α} {k : Nat} {x y : α} (hx : xs[k]? = some x) (hy : ys[k]? = some y) (h : x ≠ y) : xs ≠ ys := by
  intro e; subst e; rw [hx] at hy; exact h (by cases hy; rfl)
theorem equal_int (a b : Option Addr) (n m c1 c2 : Nat) (xs ys : List Int) (w : World) (hx : Rd encI w.heap.size w a n c1 xs) (hy : Rd encI w.heap.size w b m c2 ys) :
    Calls Try.prog 20 #[.slice a n c1, .slice b m c2] w fun e w' => e = .returned (.bool (decide (xs = ys))) ∧ Below w.heap.size w w' := by
  have hn := hx.len
  have hm := hy.len
  have hf := hx.fit
  refine enterQ (N := 26) (H := []) (B := w.heap.size) (args := [_, _]) Try.func20 rfl rfl rfl (Nat.le_refl _) (Sat.nil _ _) fun Q hQ => ?_
  refine wp_seq' fun K1 hK1 => ?_
  refine wp_reg ?_
  refine ol_r (r_assign rfl) rfl ?_
  refine ol_nil (to_k0 (fun _ _ h => h) (hK1 _ _ ?_))
  clear hK1
  refine wp_seq' fun K2 hK2 => ?_
  refine wp_seq' fun K3 hK3 => ?_
  refine wp_reg ?_
  refine ol_r (r_move rfl) rfl ?_
  refine ol_r (r_len rfl sl22) rfl ?_
  refine ol_r (r_move rfl) rfl ?_
  refine ol_r (r_len rfl sl22) rfl ?_
  refine ol_r (r_neq rfl rfl) rfl ?_
  refine ol_nil (to_k0 (fun _ _ h => h) (hK3 _ _ ?_))
  clear hK3
  first | refine wp_condD rfl (fun hc10 => ?_) (fun hc10 => ?_) | refine wp_condN rfl (fun hc10 => ?_) (fun hc10 => ?_) | refine wp_condNB rfl (fun hc10 => ?_) (fun hc10 => ?_) | refine wp_cond' rfl (fun hc10 => ?_) (fun hc10 => ?_)
  · refine wp_seq' fun K4 hK4 => ?_
    refine wp_reg ?_
    refine ol_r (r_assign rfl) rfl ?_
    refine ol_nil (to_k0 (fun _ _ h => h) (hK4 _ _ ?_))
    clear hK4
    refine hQ.ret (rvs1 (rv_t rfl)) (fun _ _ h => h) fun w hb hs hB => ?_
    exact ⟨by rw [decide_eq_false]; intro e; rw [e] at hn; omega, hb⟩
  · refine wp_skip' (to_k0 (fun _ _ h => h) (hK2 _ _ ?_))
    clear hK2
    refine wp_seq' fun K5 hK5 => ?_
    refine wp_seq' fun K6 hK6 => ?_
    refine wp_reg ?_
    refine ol_r (r_move rfl) rfl ?_
    refine ol_r (r_len rfl sl22) rfl ?_
    refine ol_r (r_move rfl) rfl ?_
    refine ol_nil (to_k0 (fun _ _ h => h) (hK6 _ _ ?_))
    clear hK6
    refine wp_block' ?_
    apply wp_loopM (σ := Nat) (fun s => s ≤ n ∧ xs.take s = ys.take s) (fun s => [(13, .int .i64 s)]) [(0, _), (1, _), (12, _)] (fun s => []) [] (fun s => n - s) (0)
    · try dsimp only
      simp
    · exact (sub_cons rfl sub_nil)
    · exact (sub_cons rfl (sub_cons rfl (sub_cons rfl sub_nil)))
    · exact subH_nil
    · exact subH_nil
    · rintro k ⟨hk, hP⟩
      intro K7 hK7
      refine wp_seq' fun K8 hK8 => ?_
      refine wp_reg ?_
      refine ol_r (r_lss rfl rfl) rfl ?_
      refine ol_nil (to_k0 (fun _ _ h => h) (hK8 _ _ ?_))
      clear hK8
      refine wp_seq' fun K9 hK9 => ?_
      first | refine wp_condD rfl (fun hc14 => ?_) (fun hc14 => ?_) | refine wp_condN rfl (fun hc14 => ?_) (fun hc14 => ?_) | refine wp_condNB rfl (fun hc14 => ?_) (fun hc14 => ?_) | refine wp_cond' rfl (fun hc14 => ?_) (fun hc14 => ?_)
      · refine wp_skip' (to_k0 (fun _ _ h => h) (hK9 _ _ ?_))
        clear hK9
        refine wp_seq' fun K10 hK10 => ?_
        refine wp_block' ?_
        refine wp_seq' fun K11 hK11 => ?_
        refine wp_reg ?_
        refine ol_r (r_move rfl) rfl ?_
        refine ol_r (r_assign rfl) rfl ?_
        refine ol_nil (to_k0 (fun _ _ h => h) (hK11 _ _ ?_))
        clear hK11
        refine wp_seq' fun K12 hK12 => ?_
        refine wp_regq (by kernel_rfl) (by kernel_rfl) ?_
        refine ql_r (r_move rfl) rfl ?_
        refine ql_r (r_move rfl) rfl ?_
        refine ql_ixr hx rfl rfl sl22 (by omega) rfl fun x18 hx18 => ?_
        try simp only [Int.toNat_natCast] at hx18
        refine ql_r (r_ldw rfl (fun w1 hb1 hs1 hB1 => show Loads _ _ _ _ (.int .i64 x18) from Rd.loads hx ty3 hx18 hb1)) rfl ?_
        refine ql_r (r_move rfl) rfl ?_
        refine ql_r (r_move rfl) rfl ?_
        refine ql_ixr hy rfl rfl sl22 (by omega) rfl fun x22 hx22 => ?_
        try simp only [Int.toNat_natCast] at hx22
        refine ql_r (r_ldw rfl (fun w1 hb1 hs1 hB1 => show Loads _ _ _ _ (.int .i64 x22) from Rd.loads hy ty3 hx22 hb1)) rfl ?_
        refine ql_r (r_neq rfl rfl) rfl ?_
        refine ql_nil (to_k0 (fun _ _ h => h) (hK12 _ _ ?_))
        clear hK12
        first | refine wp_condD rfl (fun hc24 => ?_) (fun hc24 => ?_) | refine wp_condN rfl (fun hc24 => ?_) (fun hc24 => ?_) | refine wp_condNB rfl (fun hc24 => ?_) (fun hc24 => ?_) | refine wp_cond' rfl (fun hc24 => ?_) (fun hc24 => ?_)
        · refine wp_seq' fun K13 hK13 => ?_
          refine wp_reg ?_
          refine ol_r (r_assign rfl) rfl ?_
          refine ol_nil (to_k0 (fun _ _ h => h) (hK13 _ _ ?_))
          clear hK13
          refine hQ.ret (rvs1 (rv_t rfl)) (fun _ _ h => h) fun w hb hs hB => ?_
          exact ⟨by rw [decide_eq_false (list_ne_of_get hx18 hx22 hc24)], hb⟩
        · refine wp_skip' (to_k0 (fun _ _ h => h) (hK10 _ _ ?_))
          clear hK10
          refine wp_reg ?_
          refine ol_r (r_add rfl rfl (by omega)) rfl ?_
          refine ol_r (r_move rfl) rfl ?_
          refine ol_nil (to_k0 (fun _ _ h => h) (hK7 (k + 1) _ _ ?_ ?_ (sub_cons rfl sub_nil) (sub_cons rfl (sub_cons rfl (sub_cons rfl sub_nil))) (by exact subH_nil) subH_nil))
          · try dsimp only
            exact ⟨by omega, by rw [take_succ_get hx18, take_succ_get hx22, hP, Decidable.not_not.1 hc24]⟩
          · try dsimp only
            omega
      · refine wp_exit' (to_k0 (fun _ _ h => h) (hK5 _ _ ?_))
        clear hK5
        refine wp_seq' fun K14 hK14 => ?_
        refine wp_reg ?_
        refine ol_r (r_assign rfl) rfl ?_
        refine ol_nil (to_k0 (fun _ _ h => h) (hK14 _ _ ?_))
        clear hK14
        refine hQ.ret (rvs1 (rv_t rfl)) (fun _ _ h => h) fun w hb hs hB => ?_
        have h1 : xs.take k = xs := List.take_of_length_le (by omega)
        have h2 : ys.take k = ys := List.take_of_length_le (by omega)
        exact ⟨by rw [decide_eq_true (by rw [← h1, ← h2]; exact hP)], hb⟩

theorem clone_int (a : Option Addr) (n c1 : Nat) (xs : List Int) (w : World) (hx : Rd encI w.heap.size w a n c1 xs) (hn : n ≤ 17592186044416) :
    Calls Try.prog 15 #[.slice a n c1] w fun e w' => ∃ b m k, e = .returned (.slice b m k) ∧ Fresh encI 3 w w' b m k xs := by
  have hl := hx.len
  refine enterQ (N := 8) (H := []) (B := w.heap.size) (args := [_]) Try.func15 rfl rfl rfl (Nat.le_refl _) (Sat.nil _ _) fun Q hQ => ?_
  refine wp_seq' fun K1 hK1 => ?_
  refine wp_reg ?_
  refine ol_r (r_assign rfl) rfl ?_
  refine ol_nil (to_k0 (fun _ _ h => h) (hK1 _ _ ?_))
  clear hK1
  refine wp_seq' fun K2 hK2 => ?_
  refine wp_seq' fun K3 hK3 => ?_
  refine wp_reg ?_
  refine ol_r (r_move rfl) rfl ?_
  refine ol_r (r_snil rfl rfl sl22) rfl ?_
  refine ol_nil (to_k0 (fun _ _ h => h) (hK3 _ _ ?_))
  clear hK3
  first | refine wp_condD rfl (fun hc4 => ?_) (fun hc4 => ?_) | refine wp_condN rfl (fun hc4 => ?_) (fun hc4 => ?_) | refine wp_condNB rfl (fun hc4 => ?_) (fun hc4 => ?_) | refine wp_cond' rfl (fun hc4 => ?_) (fun hc4 => ?_)
  · refine wp_seq' fun K4 hK4 => ?_
    refine wp_reg ?_
    refine ol_r (r_assign rfl) rfl ?_
    refine ol_nil (to_k0 (fun _ _ h => h) (hK4 _ _ ?_))
    clear hK4
    refine hQ.ret (rvs1 (rv_t rfl)) (fun _ _ h => h) fun w hb hs hB => ?_
    have h0 : n = 0 := by
      cases n with
      | zero => rfl
      | succ m => have := hx.isSome (by omega); cases a <;> simp at this hc4
    have : xs = [] := List.eq_nil_of_length_eq_zero (by omega)
    subst this
    exact ⟨none, 0, 0, rfl, Fresh.nil hb⟩
  · refine wp_skip' (to_k0 (fun _ _ h => h) (hK2 _ _ ?_))
    clear hK2
    refine wp_seq' fun K5 hK5 => ?_
    refine wp_reg ?_
    refine ol_bs0 5 rw22 rfl fun b5 => ?_
    refine ol_r (r_move rfl) rfl ?_
    refine ol_append (id := 5) (news := encI.enc xs) rfl rfl rfl rw22 (by rw [Enc.enc_len, hl]; rfl) (encI.ones_enc xs) (fun w1 hb1 hs1 hB1 => ?_) (by omega) rfl fun a7 c7 => ?_
    · obtain ⟨p, hp⟩ : ∃ p, a = some p := by cases a with | none => simp at hc4 | some p => exact ⟨p, rfl⟩
      exact ⟨p, hp, (hx.below hb1).flat hp⟩
    refine ol_r (r_assign rfl) rfl ?_
    refine ol_nil (to_k0 (fun _ _ h => h) (hK5 _ _ ?_))
    clear hK5
    refine hQ.ret (rvs1 (rv_t rfl)) (fun _ _ h => h) fun w hb hs hB => ?_
    refine ⟨a7, 0 + n, c7, rfl, hb, ?_⟩
    have := hs.ok 5 _ rfl
    exact this
end Go.Proofs.Ytamlldedmhkobaa
