/-
  The best effort, of program and reference; MatchEffortsMatchSpec.
-/
import Derived.Test.YtbbhcffkleplnaaEft2M
import Derived.Test.YtbbhcffkleplnaaEfts
namespace Go.Proofs.Ytbbhcffkleplnaa
open Go Go.RowKit Hx
set_option linter.unusedVariables false
set_option linter.unusedSimpArgs false
set_option maxRecDepth 8000
theorem cmp_isNaNI (x : Int) (w : World) : Calls Try.prog 85 #[.int .i64 x] w fun e w' => e = .returned (.bool false) ∧ Below w.heap.size w w' := by
  refine enterQ (N := 6) (C := fun _ => True) (H := []) (B := w.heap.size) (args := [_]) Try.func85 rfl rfl rfl (Nat.le_refl _) (Sat.nil _ _) fun Q hQ => ?_
  refine wp_seq' fun K1 hK1 => ?_
  refine wp_reg ?_
  refine ol_r (r_assign rfl) rfl ?_
  refine ol_nil (to_k0 (fun _ _ h => h) (hK1 _ _ _ _ _ ?_))
  clear hK1
  refine wp_seq' fun K2 hK2 => ?_
  refine wp_reg ?_
  refine ol_r (r_move rfl) rfl ?_
  refine ol_r (r_move rfl) rfl ?_
  refine ol_r (r_neq rfl rfl) rfl ?_
  refine ol_r (r_assign rfl) rfl ?_
  refine ol_nil (to_k0 (fun _ _ h => h) (hK2 _ _ _ _ _ ?_))
  clear hK2
  refine hQ.ret (rvs1 (rv_t rfl)) (fun _ _ h => h) fun w hb hs hB hkd => ?_
  exact ⟨by simp, hb⟩
theorem cmp_CompareI (x y : Int) (w : World) : Calls Try.prog 54 #[.int .i64 x, .int .i64 y] w fun e w' => e = .returned (.int .i64 (cmpI x y)) ∧ Below w.heap.size w w' := by
  refine enterQ (N := 20) (C := fun _ => True) (H := []) (B := w.heap.size) (args := [_, _]) Try.func54 rfl rfl rfl (Nat.le_refl _) (Sat.nil _ _) fun Q hQ => ?_
  refine wp_seq' fun K1 hK1 => ?_
  refine wp_reg ?_
  refine ol_r (r_assign rfl) rfl ?_
  refine ol_nil (to_k0 (fun _ _ h => h) (hK1 _ _ _ _ _ ?_))
  clear hK1
  refine wp_seq' fun K2 hK2 => ?_
  refine wp_reg ?_
  refine ol_r (r_move rfl) rfl ?_
  refine ol_call rfl rfl cb85 rfl (fun w1 hb1 hs1 hB1 => Calls.mono (cmp_isNaNI _ _) ?_)
  rintro e w2 ⟨rfl, hb2⟩
  refine After.below rfl hb1 hs1 hB1 hb2 ?_
  clear hb2 hB1 hs1 hb1 w2 w1
  refine ol_r (r_assign rfl) rfl ?_
  refine ol_nil (to_k0 (fun _ _ h => h) (hK2 _ _ _ _ _ ?_))
  clear hK2
  refine wp_seq' fun K3 hK3 => ?_
  refine wp_reg ?_
  refine ol_r (r_move rfl) rfl ?_
  refine ol_call rfl rfl cb85 rfl (fun w1 hb1 hs1 hB1 => Calls.mono (cmp_isNaNI _ _) ?_)
  rintro e w2 ⟨rfl, hb2⟩
  refine After.below rfl hb1 hs1 hB1 hb2 ?_
  clear hb2 hB1 hs1 hb1 w2 w1
  refine ol_r (r_assign rfl) rfl ?_
  refine ol_nil (to_k0 (fun _ _ h => h) (hK3 _ _ _ _ _ ?_))
  clear hK3
  refine wp_seq' fun K4 hK4 => ?_
  refine wp_seq' fun K5 hK5 => ?_
  refine wp_reg ?_
  refine ol_r (r_move rfl) rfl ?_
  refine ol_nil (to_k0 (fun _ _ h => h) (hK5 _ _ _ _ _ ?_))
  clear hK5
  refine wp_cond' rfl (fun hc11 => ?_) (fun hc11 => ?_)
  ·refine wp_seq' fun K6 hK6 => ?_
   refine wp_seq' fun K7 hK7 => ?_
   refine wp_reg ?_
   refine ol_r (r_move rfl) rfl ?_
   refine ol_nil (to_k0 (fun _ _ h => h) (hK7 _ _ _ _ _ ?_))
   clear hK7
   refine wp_cond' rfl (fun hc12 => ?_) (fun hc12 => ?_)
   ·refine wp_seq' fun K8 hK8 => ?_
    refine wp_reg ?_
    refine ol_r (r_assign rfl) rfl ?_
    refine ol_nil (to_k0 (fun _ _ h => h) (hK8 _ _ _ _ _ ?_))
    clear hK8
    refine hQ.ret (rvs1 (rv_t rfl)) (fun _ _ h => h) fun w hb hs hB hkd => ?_
    first
      | (exfalso; simp_all; done)
   ·refine wp_skip' (to_k0 (fun _ _ h => h) (hK6 _ _ _ _ _ ?_))
    clear hK6
    refine wp_seq' fun K9 hK9 => ?_
    refine wp_reg ?_
    refine ol_r (r_assign rfl) rfl ?_
    refine ol_nil (to_k0 (fun _ _ h => h) (hK9 _ _ _ _ _ ?_))
    clear hK9
    refine hQ.ret (rvs1 (rv_t rfl)) (fun _ _ h => h) fun w hb hs hB hkd => ?_
    first
      | (exfalso; simp_all; done)
  ·refine wp_skip' (to_k0 (fun _ _ h => h) (hK4 _ _ _ _ _ ?_))
   clear hK4
   refine wp_seq' fun K10 hK10 => ?_
   refine wp_seq' fun K11 hK11 => ?_
   refine wp_reg ?_
   refine ol_r (r_move rfl) rfl ?_
   refine ol_nil (to_k0 (fun _ _ h => h) (hK11 _ _ _ _ _ ?_))
   clear hK11
   refine wp_cond' rfl (fun hc13 => ?_) (fun hc13 => ?_)
   ·refine wp_seq' fun K12 hK12 => ?_
    refine wp_reg ?_
    refine ol_r (r_assign rfl) rfl ?_
    refine ol_nil (to_k0 (fun _ _ h => h) (hK12 _ _ _ _ _ ?_))
    clear hK12
    refine hQ.ret (rvs1 (rv_t rfl)) (fun _ _ h => h) fun w hb hs hB hkd => ?_
    first
      | (exfalso; simp_all; done)
   ·refine wp_skip' (to_k0 (fun _ _ h => h) (hK10 _ _ _ _ _ ?_))
    clear hK10
    refine wp_seq' fun K13 hK13 => ?_
    refine wp_seq' fun K14 hK14 => ?_
    refine wp_reg ?_
    refine ol_r (r_move rfl) rfl ?_
    refine ol_r (r_move rfl) rfl ?_
    refine ol_r (r_lss rfl rfl) rfl ?_
    refine ol_nil (to_k0 (fun _ _ h => h) (hK14 _ _ _ _ _ ?_))
    clear hK14
    refine wp_condD rfl (fun hc16 => ?_) (fun hc16 => ?_)
    ·refine wp_seq' fun K15 hK15 => ?_
     refine wp_reg ?_
     refine ol_r (r_assign rfl) rfl ?_
     refine ol_nil (to_k0 (fun _ _ h => h) (hK15 _ _ _ _ _ ?_))
     clear hK15
     refine hQ.ret (rvs1 (rv_t rfl)) (fun _ _ h => h) fun w hb hs hB hkd => ?_
     first
       | exact ⟨by unfold cmpI; rw [if_pos (by omega)], hb⟩
    ·refine wp_skip' (to_k0 (fun _ _ h => h) (hK13 _ _ _ _ _ ?_))
     clear hK13
     refine wp_seq' fun K16 hK16 => ?_
     refine wp_seq' fun K17 hK17 => ?_
     refine wp_reg ?_
     refine ol_r (r_move rfl) rfl ?_
     refine ol_r (r_move rfl) rfl ?_
     refine ol_r (r_gtr rfl rfl) rfl ?_
     refine ol_nil (to_k0 (fun _ _ h => h) (hK17 _ _ _ _ _ ?_))
     clear hK17
     refine wp_condD rfl (fun hc19 => ?_) (fun hc19 => ?_)
     ·refine wp_seq' fun K18 hK18 => ?_
      refine wp_reg ?_
      refine ol_r (r_assign rfl) rfl ?_
      refine ol_nil (to_k0 (fun _ _ h => h) (hK18 _ _ _ _ _ ?_))
      clear hK18
      refine hQ.ret (rvs1 (rv_t rfl)) (fun _ _ h => h) fun w hb hs hB hkd => ?_
      first
        | exact ⟨by unfold cmpI; rw [if_neg (by omega), if_pos (by omega)], hb⟩
     ·refine wp_skip' (to_k0 (fun _ _ h => h) (hK16 _ _ _ _ _ ?_))
      clear hK16
      refine wp_seq' fun K19 hK19 => ?_
      refine wp_reg ?_
      refine ol_r (r_assign rfl) rfl ?_
      refine ol_nil (to_k0 (fun _ _ h => h) (hK19 _ _ _ _ _ ?_))
      clear hK19
      refine hQ.ret (rvs1 (rv_t rfl)) (fun _ _ h => h) fun w hb hs hB hkd => ?_
      first
        | exact ⟨by unfold cmpI; rw [if_neg (by omega), if_neg (by omega)], hb⟩
theorem ty49 : Ty Try.prog 49 encSl := .inr ⟨ag49, fun _ => rfl⟩
/-- Times that can be told apart: some, and small. -/
def Tms (l : List Int) : Prop := 0 < l.length ∧ ∀ t ∈ l, 0 ≤ t ∧ t ≤ 1000000000
theorem longV_eq {l : List Int} {x y : Int} (hx : l[l.length - 1]? = some x) (hy : l[0]? = some y) : longV l = x - y := by
  unfold longV; simp [List.getD, hx, hy]
theorem match_long (a : Option Addr) (n c : Nat) (l : List Int) (w : World) (hR : Rd encI w.heap.size w a n c l) (hl : Tms l) :
    Calls Try.prog 55 #[.agg #[.slice a n c]] w fun e w' => e = .returned (.int .i64 (longV l)) ∧ Below w.heap.size w w' := by
  obtain rfl := hR.len
  obtain ⟨h0, hb0⟩ := hl
  have hf := hR.fit
  refine enterQ (N := 16) (C := fun _ => True) (H := []) (B := w.heap.size) (args := [_]) Try.func55 rfl rfl rfl (Nat.le_refl _) (Sat.nil _ _) fun Q hQ => ?_
  refine wp_seq' fun K1 hK1 => ?_
  refine wp_reg ?_
  refine ol_box 1 rfl rfl rfl fun b1 => ?_
  refine ol_r (r_assign rfl) rfl ?_
  refine ol_nil (to_k0 (fun _ _ h => h) (hK1 _ _ _ _ _ ?_))
  clear hK1
  refine wp_seq' fun K2 hK2 => ?_
  refine wp_regq (by kernel_rfl) (by kernel_rfl) ?_
  refine ql_r (r_fa (o' := 0) rfl fl49_0 rfl) rfl ?_
  refine ql_r (r_ld (id := 1) rfl rfl rfl sc47) rfl ?_
  refine ql_r (r_fa (o' := 0) rfl fl49_0 rfl) rfl ?_
  refine ql_r (r_ld (id := 1) rfl rfl rfl sc47) rfl ?_
  refine ql_r (r_len rfl sl47) rfl ?_
  refine ql_r (r_sub rfl rfl (by omega)) rfl ?_
  refine ql_ixr hR rfl rfl sl47 (by omega) rfl fun x9 hx9 => ?_
  try simp only [Int.toNat_natCast] at hx9
  refine ql_r (r_ldw rfl (fun w1 hb1 hs1 hB1 => show Loads _ _ _ _ (.int .i64 x9) from Rd.loads hR ty3 hx9 hb1)) rfl ?_
  refine ql_r (r_fa (o' := 0) rfl fl49_0 rfl) rfl ?_
  refine ql_r (r_ld (id := 1) rfl rfl rfl sc47) rfl ?_
  refine ql_ixr hR rfl rfl sl47 (by omega) rfl fun x13 hx13 => ?_
  try simp only [Int.toNat_natCast] at hx13
  refine ql_r (r_ldw rfl (fun w1 hb1 hs1 hB1 => show Loads _ _ _ _ (.int .i64 x13) from Rd.loads hR ty3 hx13 hb1)) rfl ?_
  have h1 := hb0 _ (List.mem_of_getElem? hx9)
  have h2 := hb0 _ (List.mem_of_getElem? hx13)
  refine ql_r (r_sub rfl rfl (by omega)) rfl ?_
  refine ql_r (r_assign rfl) rfl ?_
  refine ql_nil (to_k0 (fun _ _ h => h) (hK2 _ _ _ _ _ ?_))
  clear hK2
  refine hQ.ret (rvs1 (rv_t rfl)) (fun _ _ h => h) fun w hb hs hB hkd => ?_
  rw [show ((l.length : Int) - 1).toNat = l.length - 1 by omega] at hx9
  exact ⟨by rw [longV_eq hx9 (by simpa using hx13)], hb⟩
theorem best_cmp (a b : Option Addr) (n m c d : Nat) (l k : List Int) (w : World) (hR : Rd encI w.heap.size w a n c l) (hS : Rd encI w.heap.size w b m d k) (hl : Tms l) (hk : Tms k) :
    Calls Try.prog 53 #[.agg #[.slice a n c], .agg #[.slice b m d]] w fun e w' => e = .returned (.int .i64 (cmpI (longV l) (longV k))) ∧ Below w.heap.size w w' := by
  refine enterQ (N := 10) (C := fun _ => True) (H := []) (B := w.heap.size) (args := [_, _]) Try.func53 rfl rfl rfl (Nat.le_refl _) (Sat.nil _ _) fun Q hQ => ?_
  refine wp_seq' fun K1 hK1 => ?_
  refine wp_reg ?_
  refine ol_box 2 rfl rfl rfl fun b2 => ?_
  refine ol_box 3 rfl rfl rfl fun b3 => ?_
  refine ol_r (r_assign rfl) rfl ?_
  refine ol_nil (to_k0 (fun _ _ h => h) (hK1 _ _ _ _ _ ?_))
  clear hK1
  refine wp_seq' fun K2 hK2 => ?_
  refine wp_regq (by kernel_rfl) (by kernel_rfl) ?_
  refine ql_r (r_lda (id := 2) (n := 1) rfl rfl rfl ag49) rfl ?_
  refine ql_call rfl rfl cb55 rfl (fun w1 hb1 hs1 hB1 => match_long _ _ _ l _ (hR.at hb1 hB1) hl) ?_
  refine ql_r (r_lda (id := 3) (n := 1) rfl rfl rfl ag49) rfl ?_
  refine ql_call rfl rfl cb55 rfl (fun w1 hb1 hs1 hB1 => match_long _ _ _ k _ (hS.at hb1 hB1) hk) ?_
  refine ql_call rfl rfl cb54 rfl (fun w1 hb1 hs1 hB1 => cmp_CompareI _ _ _) ?_
  refine ql_r (r_assign rfl) rfl ?_
  refine ql_nil (to_k0 (fun _ _ h => h) (hK2 _ _ _ _ _ ?_))
  clear hK2
  refine hQ.ret (rvs1 (rv_t rfl)) (fun _ _ h => h) fun w hb hs hB hkd => ?_
  exact ⟨rfl, hb⟩
theorem bestK_yes {l : List (List Int)} {k : Nat} {x : List Int} (hx : l[k]? = some x) (h : longV x < longV (l.getD (bestK l k) [])) : bestK l (k + 1) = k := by rw [bestK, hx]; exact if_pos h
theorem bestK_no {l : List (List Int)} {k : Nat} {x : List Int} (hx : l[k]? = some x) (h : ¬longV x < longV (l.getD (bestK l k) [])) : bestK l (k + 1) = bestK l k := by rw [bestK, hx]; exact if_neg h
theorem cmpI_neg {x y : Int} : cmpI x y < 0 ↔ x < y := by unfold cmpI; split <;> (try split) <;> omega
theorem getD_map {L : List (Sl × List Int)} {i : Nat} {x : Sl × List Int} (h : L[i]? = some x) : (L.map (·.2)).getD i [] = x.2 := by simp [List.getD, h]
theorem minFunc_eff (a : Option Addr) (n c : Nat) (L : List (Sl × List Int)) (w : World) (hR : RdE w.heap.size w a n c L) (hT : ∀ x ∈ L, Tms x.2) (h0 : 0 < n) :
    Calls Try.prog 52 #[.slice a n c, .func (.func 53) #[] #[]] w fun e w' => ∃ x, L[bestK (L.map (·.2)) n]? = some x ∧ e = .returned (encSl.val x.1) ∧ Below w.heap.size w w' := by
  have hn := hR.len
  have hO := hR.out
  have hf := hO.fit
  have hml : (L.map (·.1)).length = n := by rw [List.length_map]; exact hn
  have hml2 : (L.map (·.2)).length = n := by rw [List.length_map]; exact hn
  refine enterQ (N := 33) (C := fun _ => True) (H := []) (B := w.heap.size) (args := [_, _]) Try.func52 rfl rfl rfl (Nat.le_refl _) (Sat.nil _ _) fun Q hQ => ?_
  refine wp_seq' fun K1 hK1 => ?_
  refine wp_reg ?_
  refine ol_alloc 4 z49 rfl fun b4 => ?_
  refine ol_nil (to_k0 (fun _ _ h => h) (hK1 _ _ _ _ _ ?_))
  clear hK1
  refine wp_seq' fun K2 hK2 => ?_
  refine wp_seq' fun K3 hK3 => ?_
  refine wp_reg ?_
  refine ol_r (r_move rfl) rfl ?_
  refine ol_r (r_len rfl sl44) rfl ?_
  refine ol_r (r_lss rfl rfl) rfl ?_
  refine ol_nil (to_k0 (fun _ _ h => h) (hK3 _ _ _ _ _ ?_))
  clear hK3
  refine wp_condD rfl (fun hc9 => ?_) (fun hc9 => ?_)
  ·exfalso
   omega
  ·refine wp_skip' (to_k0 (fun _ _ h => h) (hK2 _ _ _ _ _ ?_))
   clear hK2
   refine wp_seq' fun K4 hK4 => ?_
   refine wp_reg ?_
   refine ol_r (r_move rfl) rfl ?_
   refine ol_ixr hO rfl rfl sl44 (by omega) rfl fun x12 hx12 => ?_
   try simp only [Int.toNat_natCast] at hx12
   refine ol_r (r_ldw rfl (fun w1 hb1 hs1 hB1 => Rd.loads hO ty49 hx12 hb1)) rfl ?_
   obtain ⟨y0, hy0, he0⟩ : ∃ y0, L[0]? = some y0 ∧ y0.1 = x12 := by
     have h9 : (L.map (·.1))[0]? = some x12 := by simpa using hx12
     rw [List.getElem?_map] at h9
     obtain ⟨y0, e1, e2⟩ := Option.map_eq_some_iff.1 h9
     exact ⟨y0, e1, e2⟩
   subst he0
   refine ol_alloc 5 z49 rfl fun b5 => ?_
   refine ol_store (id := 5) rfl rfl rfl rfl sz49 rfl rfl (by first | decide | exact Nat.zero_lt_succ _ | simp) ?_
   refine ol_nil (to_k0 (fun _ _ h => h) (hK4 _ _ _ _ _ ?_))
   clear hK4
   refine wp_seq' fun K5 hK5 => ?_
   refine wp_seq' fun K6 hK6 => ?_
   refine wp_reg ?_
   refine ol_r (r_assign rfl) rfl ?_
   refine ol_nil (to_k0 (fun _ _ h => h) (hK6 _ _ _ _ _ ?_))
   clear hK6
   refine wp_block' ?_
   apply wp_loopM (σ := Nat × (Sl × List Int)) (fun s => 0 < s.1 ∧ s.1 ≤ n ∧ L[bestK (L.map (·.2)) s.1]? = some s.2) (fun s => [(6, .int .i64 s.1)]) [(0, _), (1, _), (4, _), (5, _)] (fun s => [(5, .blk b5 (pairs 0 [.slice s.2.1.1 s.2.1.2.1 s.2.1.2.2]) 49)]) [(4, _)] (fun s => n - s.1) ((1, y0))
   ·try dsimp only
    exact ⟨by omega, by omega, by rw [bestK_one]; exact hy0⟩
   ·exact (sub_cons rfl sub_nil)
   ·exact (sub_cons rfl (sub_cons rfl (sub_cons rfl (sub_cons rfl sub_nil))))
   ·exact (subH_blk rfl (by repeat' first | exact sub_nil | refine sub_cons rfl ?_) subH_nil)
   ·exact (subH_same rfl subH_nil)
   ·rintro ⟨k, y⟩ ⟨hk0, hk, hy⟩
    dsimp only at hk0 hk hy ⊢
    intro K7 hK7
    refine wp_seq' fun K8 hK8 => ?_
    refine wp_seq' fun K9 hK9 => ?_
    refine wp_reg ?_
    refine ol_r (r_move rfl) rfl ?_
    refine ol_r (r_move rfl) rfl ?_
    refine ol_r (r_len rfl sl44) rfl ?_
    refine ol_r (r_lss rfl rfl) rfl ?_
    refine ol_nil (to_k0 (fun _ _ h => h) (hK9 _ _ _ _ _ ?_))
    clear hK9
    refine wp_condD rfl (fun hc17 => ?_) (fun hc17 => ?_)
    ·refine wp_skip' (to_k0 (fun _ _ h => h) (hK8 _ _ _ _ _ ?_))
     clear hK8
     refine wp_seq' fun K10 hK10 => ?_
     refine wp_block' ?_
     refine wp_seq' fun K11 hK11 => ?_
     refine wp_regq (by kernel_rfl) (by kernel_rfl) ?_
     refine ql_r (r_move rfl) rfl ?_
     refine ql_r (r_move rfl) rfl ?_
     refine ql_r (r_move rfl) rfl ?_
     refine ql_ixr hO rfl rfl sl44 (by omega) rfl fun x23 hx23 => ?_
     try simp only [Int.toNat_natCast] at hx23
     refine ql_r (r_ldw rfl (fun w1 hb1 hs1 hB1 => Rd.loads hO ty49 hx23 hb1)) rfl ?_
     refine ql_r (r_lda (id := 5) (n := 1) rfl rfl rfl ag49) rfl ?_
     obtain ⟨z, hz, hez⟩ : ∃ z, L[k]? = some z ∧ z.1 = x23 := by
       have h9 : (L.map (·.1))[k]? = some x23 := by simpa using hx23
       rw [List.getElem?_map] at h9
       obtain ⟨y0, e1, e2⟩ := Option.map_eq_some_iff.1 h9
       exact ⟨y0, e1, e2⟩
     subst hez
     refine ql_call rfl rfl cb53 rfl (fun w1 hb1 hs1 hB1 => best_cmp _ _ _ _ _ _ z.2 y.2 _ ((hR.inn _ _ hz).at hb1 hB1) ((hR.inn _ _ hy).at hb1 hB1) (hT _ (List.mem_of_getElem? hz)) (hT _ (List.mem_of_getElem? hy))) ?_
     refine ql_r (r_lss rfl rfl) rfl ?_
     refine ql_nil (to_k0 (fun _ _ h => h) (hK11 _ _ _ _ _ ?_))
     clear hK11
     refine wp_condD rfl (fun hc27 => ?_) (fun hc27 => ?_)
     ·refine wp_reg ?_
      refine ol_r (r_move rfl) rfl ?_
      refine ol_r (r_move rfl) rfl ?_
      refine ol_ixr hO rfl rfl sl44 (by omega) rfl fun x30 hx30 => ?_
      try simp only [Int.toNat_natCast] at hx30
      refine ol_r (r_ldw rfl (fun w1 hb1 hs1 hB1 => Rd.loads hO ty49 hx30 hb1)) rfl ?_
      refine ol_store (id := 5) rfl rfl rfl rfl sz49 rfl rfl (by first | decide | exact Nat.zero_lt_succ _ | simp) ?_
      refine ol_nil (to_k0 (fun _ _ h => h) (hK10 _ _ _ _ _ ?_))
      clear hK10
      refine wp_reg ?_
      refine ol_r (r_move rfl) rfl ?_
      first
        | (obtain rfl : z.1 = x30 := Option.some.inj (hx23.symm.trans hx30)
           skip)
        | skip
      refine ol_r (r_add rfl rfl (by omega)) rfl ?_
      refine ol_r (r_assign rfl) rfl ?_
      refine ol_nil (to_k0 (fun _ _ h => h) (hK7 ((k + 1, z)) _ _ ?_ ?_ (sub_cons rfl sub_nil) (sub_cons rfl (sub_cons rfl (sub_cons rfl (sub_cons rfl sub_nil)))) (by exact (subH_blk rfl (by repeat' first | exact sub_nil | refine sub_cons rfl ?_) subH_nil)) (subH_same rfl subH_nil)))
      ·try dsimp only
       exact ⟨by omega, by omega, by rw [bestK_yes (k := k) (by rw [List.getElem?_map, hz]; rfl) (by rw [getD_map hy]; exact cmpI_neg.1 hc27)]; exact hz⟩
      ·try dsimp only
       omega
     ·refine wp_skip' (to_k0 (fun _ _ h => h) (hK10 _ _ _ _ _ ?_))
      clear hK10
      refine wp_reg ?_
      refine ol_r (r_move rfl) rfl ?_
      first
        | (obtain rfl : z.1 = x30 := Option.some.inj (hx23.symm.trans hx30)
           skip)
        | skip
      refine ol_r (r_add rfl rfl (by omega)) rfl ?_
      refine ol_r (r_assign rfl) rfl ?_
      refine ol_nil (to_k0 (fun _ _ h => h) (hK7 ((k + 1, y)) _ _ ?_ ?_ (sub_cons rfl sub_nil) (sub_cons rfl (sub_cons rfl (sub_cons rfl (sub_cons rfl sub_nil)))) (by exact (subH_blk rfl (by repeat' first | exact sub_nil | refine sub_cons rfl ?_) subH_nil)) (subH_same rfl subH_nil)))
      ·try dsimp only
       exact ⟨by omega, by omega, by rw [bestK_no (k := k) (by rw [List.getElem?_map, hz]; rfl) (by rw [getD_map hy]; exact fun h => hc27 (cmpI_neg.2 h))]; exact hy⟩
      ·try dsimp only
       omega
    ·refine wp_exit' (to_k0 (fun _ _ h => h) (hK5 _ _ _ _ _ ?_))
     clear hK5
     refine wp_seq' fun K12 hK12 => ?_
     refine wp_reg ?_
     refine ol_r (r_lda (id := 5) (n := 1) rfl rfl rfl ag49) rfl ?_
     refine ol_store (id := 4) rfl rfl rfl rfl sz49 rfl rfl (by first | decide | exact Nat.zero_lt_succ _ | simp) ?_
     refine ol_nil (to_k0 (fun _ _ h => h) (hK12 _ _ _ _ _ ?_))
     clear hK12
     refine hQ.ret (rvs1 (rv_c (id := 4) (n := 1) rfl rfl ag49 rfl)) (fun _ _ h => h) fun w hb hs hB hkd => ?_
     obtain rfl : k = n := by omega
     exact ⟨y, hy, rfl, hb⟩
/-- The best effort of all. -/
def bestR (nm : ByteArray) (gs : List GateR) (d : ActD) : List Int × Bool × Int :=
  if (effR nm gs d).2 ≠ 0 then ([], false, (effR nm gs d).2)
  else if (effR nm gs d).1.length = 0 then ([], false, 0)
  else ((effR nm gs d).1.getD (bestK (effR nm gs d).1 (effR nm gs d).1.length) [], true, 0)
theorem bestR_e {nm : ByteArray} {gs : List GateR} {d : ActD} (h : (effR nm gs d).2 ≠ 0) : bestR nm gs d = ([], false, (effR nm gs d).2) := if_pos h
theorem bestR_n {nm : ByteArray} {gs : List GateR} {d : ActD} (h : ¬(effR nm gs d).2 ≠ 0) (h2 : (effR nm gs d).1.length = 0) : bestR nm gs d = ([], false, 0) := by rw [bestR, if_neg h, if_pos h2]
theorem bestR_y {nm : ByteArray} {gs : List GateR} {d : ActD} {L : List (Sl × List Int)} {x : Sl × List Int} (h : ¬(effR nm gs d).2 ≠ 0) (hL : L.map (·.2) = (effR nm gs d).1) (hx : L[bestK (L.map (·.2)) L.length]? = some x) (h2 : 0 < L.length) : bestR nm gs d = (x.2, true, 0) := by
  rw [bestR, if_neg h, ← hL, List.length_map, if_neg (by omega), getD_map hx]
theorem effR_e {nm : ByteArray} {gs : List GateR} {d : ActD} (h : orL [chkSeg nm gs, chkA d] ≠ 0) : effR nm gs d = ([], orL [chkSeg nm gs, chkA d]) := if_pos h
theorem effR_0 {nm : ByteArray} {gs : List GateR} {d : ActD} (h : ¬orL [chkSeg nm gs, chkA d] ≠ 0) : effR nm gs d = (effL gs.length (crossS gs (stepsL d.ss) (stepsL d.ss).length), 0) := if_neg h
theorem effR_ok {nm : ByteArray} {gs : List GateR} {d : ActD} (h : ¬(effR nm gs d).2 ≠ 0) : ¬orL [chkSeg nm gs, chkA d] ≠ 0 := by
  intro h2; rw [effR_e h2] at h; exact h h2
theorem effR_tms {nm : ByteArray} {gs : List GateR} {A : ActV} (h : ¬orL [chkSeg nm gs, chkA A.d] ≠ 0) : ∀ l ∈ effL gs.length (crossS gs (stepsL A.ss) (stepsL A.ss).length), Tms l ∧ l.length = gs.length := by
  intro l hl
  obtain ⟨hseg, hok⟩ := or_both h
  have h1 := (effN_rows hseg.len.1 (crossS gs (stepsL A.ss) (stepsL A.ss).length) _).2 l hl
  refine ⟨⟨by have := hseg.len.1; omega, fun t ht => ?_⟩, h1.1⟩
  obtain ⟨i, hi⟩ := List.getElem?_of_mem ht
  obtain ⟨c, hc, _, rfl⟩ := h1.2 i t hi
  have := cross_bd hseg.g hok hc
  omega
theorem match_Best (nm : ByteArray) (ga : Option Addr) (gn gc : Nat) (gs : List GateR) (A : ActV) (w : World) (hn : nm.size ≤ 9223372036854775807) (hS : Rd encGate w.heap.size w ga gn gc gs) (hA : A.Ok w.heap.size w) :
    Calls Try.prog 20 #[.agg #[.string nm, .slice ga gn gc], .agg #[.string A.name, .int .i64 A.sport, .int .i64 A.start, .slice A.sa A.sn A.sc, .slice A.la A.ln A.lc, .slice A.ta A.tn A.tc]] w fun e w' => ∃ a n c, e = .returned (.tuple #[.agg #[.slice a n c], .bool (bestR nm gs A.d).2.1, .int .i64 (bestR nm gs A.d).2.2]) ∧ Below w.heap.size w w' ∧ Sat w.heap.size w' [(1001, .row a n c (encI.enc (bestR nm gs A.d).1) 3 1)] := by
  refine enterQ (N := 25) (C := fun _ => True) (H := []) (B := w.heap.size) (args := [_, _]) Try.func20 rfl rfl rfl (Nat.le_refl _) (Sat.nil _ _) fun Q hQ => ?_
  refine wp_seq' fun K1 hK1 => ?_
  refine wp_reg ?_
  refine ol_box 2 rfl rfl rfl fun b2 => ?_
  refine ol_box 3 rfl rfl rfl fun b3 => ?_
  refine ol_alloc 4 z49 rfl fun b4 => ?_
  refine ol_r (r_assign rfl) rfl ?_
  refine ol_r (r_assign rfl) rfl ?_
  refine ol_nil (to_k0 (fun _ _ h => h) (hK1 _ _ _ _ _ ?_))
  clear hK1
  refine wp_seq' fun K2 hK2 => ?_
  refine wp_seq' fun K3 hK3 => ?_
  refine wp_reg ?_
  refine ol_r (r_lda (id := 2) (n := 2) rfl rfl rfl ag24) rfl ?_
  refine ol_r (r_lda (id := 3) (n := 6) rfl rfl rfl ag29) rfl ?_
  refine ol_call rfl rfl cb35 rfl (fun w1 hb1 hs1 hB1 => Calls.mono (match_checkRun nm _ _ _ gs A _ hn (hS.at hb1 hB1) (hA.at hb1 hB1)) ?_)
  rintro e w2 ⟨rfl, hb2⟩
  refine After.below rfl hb1 hs1 hB1 hb2 ?_
  clear hb2 hB1 hs1 hb1 w2 w1
  refine ol_r (r_assign rfl) rfl ?_
  refine ol_nil (to_k0 (fun _ _ h => h) (hK3 _ _ _ _ _ ?_))
  clear hK3
  refine wp_seq' fun K4 hK4 => ?_
  refine wp_reg ?_
  refine ol_r (r_move rfl) rfl ?_
  refine ol_r (r_neq rfl rfl) rfl ?_
  refine ol_nil (to_k0 (fun _ _ h => h) (hK4 _ _ _ _ _ ?_))
  clear hK4
  refine wp_condD rfl (fun hc13 => ?_) (fun hc13 => ?_)
  ·refine wp_seq' fun K5 hK5 => ?_
   refine wp_reg ?_
   refine ol_r (r_build rfl (fun _ => bd49 _)) rfl ?_
   refine ol_r (r_move rfl) rfl ?_
   refine ol_store (id := 4) rfl rfl rfl rfl sz49 rfl rfl (by first | decide | exact Nat.zero_lt_succ _ | simp) ?_
   refine ol_r (r_assign rfl) rfl ?_
   refine ol_r (r_assign rfl) rfl ?_
   refine ol_nil (to_k0 (fun _ _ h => h) (hK5 _ _ _ _ _ ?_))
   clear hK5
   refine hQ.ret (rvs3 (rv_c (id := 4) (n := 1) rfl rfl ag49 rfl) (rv_t rfl) (rv_t rfl)) (fun _ _ h => h) fun w hb hs hB hkd => ?_
   have he1 := effR_e (d := A.d) hc13
   have he2 : (effR nm gs A.d).2 ≠ 0 := by simp only [he1]; exact hc13
   exact ⟨none, 0, 0, by rw [bestR_e he2, he1], hb, by rw [bestR_e he2]; exact (Sat.nil _ _).nilRow 1001 _ 1⟩
  ·refine wp_skip' (to_k0 (fun _ _ h => h) (hK2 _ _ _ _ _ ?_))
   clear hK2
   refine wp_seq' fun K6 hK6 => ?_
   refine wp_reg ?_
   refine ol_r (r_lda (id := 2) (n := 2) rfl rfl rfl ag24) rfl ?_
   refine ol_r (r_lda (id := 3) (n := 6) rfl rfl rfl ag29) rfl ?_
   refine ol_call rfl rfl cb51 rfl (fun w1 hb1 hs1 hB1 => ?_)
   refine Calls.mono (eff_prog nm _ _ _ gs A _ (hS.at hb1 hB1) (hA.at hb1 hB1) (or_both hc13).1 (or_both hc13).2) ?_
   rintro e w2 ⟨a5, c5, L, rfl, hb2, hs2, hL⟩
   refine After.moreE rfl hb1 hs1 hB1 hb2 (hs2.num (by decide) 1005 10000000 (by decide)) (by decide) (fun i hi _ => ?_) ?_
   · repeat' refine (look_cons_ne _ _ (by omega)).trans ?_
     rfl
   clear hs2 hb2 hB1 hs1 hb1 w2 w1
   refine ol_r (r_assign rfl) rfl ?_
   refine ol_nil (to_k0 (fun _ _ h => h) (hK6 _ _ _ _ _ ?_))
   clear hK6
   refine wp_seq' fun K7 hK7 => ?_
   refine wp_seq' fun K8 hK8 => ?_
   refine wp_reg ?_
   refine ol_r (r_move rfl) rfl ?_
   refine ol_r (r_len rfl sl44) rfl ?_
   refine ol_r (r_eql rfl rfl) rfl ?_
   refine ol_nil (to_k0 (fun _ _ h => h) (hK8 _ _ _ _ _ ?_))
   clear hK8
   refine wp_condD rfl (fun hc21 => ?_) (fun hc21 => ?_)
   ·refine wp_seq' fun K9 hK9 => ?_
    refine wp_reg ?_
    refine ol_r (r_build rfl (fun _ => bd49 _)) rfl ?_
    refine ol_store (id := 4) rfl rfl rfl rfl sz49 rfl rfl (by first | decide | exact Nat.zero_lt_succ _ | simp) ?_
    refine ol_r (r_assign rfl) rfl ?_
    refine ol_r (r_assign rfl) rfl ?_
    refine ol_nil (to_k0 (fun _ _ h => h) (hK9 _ _ _ _ _ ?_))
    clear hK9
    refine hQ.ret (rvs3 (rv_c (id := 4) (n := 1) rfl rfl ag49 rfl) (rv_t rfl) (rv_t rfl)) (fun _ _ h => h) fun w hb hs hB hkd => ?_
    have h0 : bestR nm gs A.d = ([], false, 0) := bestR_n (by rw [effR_0 hc13]; exact fun h => h rfl) (by rw [effR_0 hc13, show (effL gs.length (crossS gs (stepsL A.d.ss) (stepsL A.d.ss).length)) = L.map (·.2) from hL.symm, List.length_map]; omega)
    exact ⟨none, 0, 0, by rw [h0], hb, by rw [h0]; exact (Sat.nil _ _).nilRow 1001 _ 1⟩
   ·refine wp_skip' (to_k0 (fun _ _ h => h) (hK7 _ _ _ _ _ ?_))
    clear hK7
    refine wp_seq' fun K10 hK10 => ?_
    refine wp_reg ?_
    refine ol_r (r_move rfl) rfl ?_
    refine ol_call rfl rfl cb52 rfl (fun w1 hb1 hs1 hB1 => ?_)
    have hR := Sat.rdE hs1 (id := 1005) (base := 10000000) (U := 3) (L := L) rfl (fun j x hj => by
      repeat' refine (look_cons_ne _ _ (by omega)).trans ?_
      exact look_inn hj)
    refine Calls.mono (minFunc_eff _ _ _ L _ hR (fun x hx => (effR_tms hc13 x.2 (hL ▸ List.mem_map_of_mem hx)).1) (by omega)) ?_
    rintro e w2 ⟨x, hx, rfl, hb2⟩
    refine After.below rfl hb1 hs1 hB1 hb2 ?_
    clear hb2 hR hB1 hs1 hb1 w2 w1
    refine ol_store (id := 4) rfl rfl rfl rfl sz49 rfl rfl (by first | decide | exact Nat.zero_lt_succ _ | simp) ?_
    refine ol_r (r_assign rfl) rfl ?_
    refine ol_r (r_assign rfl) rfl ?_
    refine ol_nil (to_k0 (fun _ _ h => h) (hK10 _ _ _ _ _ ?_))
    clear hK10
    refine hQ.ret (rvs3 (rv_c (id := 4) (n := 1) rfl rfl ag49 rfl) (rv_t rfl) (rv_t rfl)) (fun _ _ h => h) fun w hb hs hB hkd => ?_
    have h0 := bestR_y (d := A.d) (nm := nm) (by rw [effR_0 hc13]; exact fun h => h rfl) (by rw [effR_0 hc13]; exact hL) hx (by omega)
    refine ⟨_, _, _, by rw [h0], hb, ?_⟩
    rw [h0]
    refine hs.one (10000000 + bestK (L.map (·.2)) L.length) 1001 (f := rowOf 3 x) ?_ (Ent.le_refl _)
    repeat' refine (look_cons_ne _ _ (by omega)).trans ?_
    exact look_inn hx
theorem ref5_Best (nm : ByteArray) (ga : Option Addr) (gn gc : Nat) (gs : List GateR) (A : ActV) (w : World) (hn : nm.size ≤ 9223372036854775807) (hS : Rd encGate w.heap.size w ga gn gc gs) (hA : A.Ok w.heap.size w) :
    Calls Try.prog 21 #[.agg #[.string nm, .slice ga gn gc], .agg #[.string A.name, .int .i64 A.sport, .int .i64 A.start, .slice A.sa A.sn A.sc, .slice A.la A.ln A.lc, .slice A.ta A.tn A.tc]] w fun e w' => ∃ a n c, e = .returned (.tuple #[.agg #[.slice a n c], .bool (bestR nm gs A.d).2.1, .int .i64 (bestR nm gs A.d).2.2]) ∧ Below w.heap.size w w' ∧ Sat w.heap.size w' [(1001, .row a n c (encI.enc (bestR nm gs A.d).1) 3 1)] := by
  have hgn := hS.len
  refine enterQ (N := 65) (C := fun _ => True) (H := []) (B := w.heap.size) (args := [_, _]) Try.func21 rfl rfl rfl (Nat.le_refl _) (Sat.nil _ _) fun Q hQ => ?_
  refine wp_seq' fun K1 hK1 => ?_
  refine wp_reg ?_
  refine ol_box 2 rfl rfl rfl fun b2 => ?_
  refine ol_box 3 rfl rfl rfl fun b3 => ?_
  refine ol_alloc 4 z49 rfl fun b4 => ?_
  refine ol_r (r_assign rfl) rfl ?_
  refine ol_r (r_assign rfl) rfl ?_
  refine ol_nil (to_k0 (fun _ _ h => h) (hK1 _ _ _ _ _ ?_))
  clear hK1
  refine wp_seq' fun K2 hK2 => ?_
  refine wp_reg ?_
  refine ol_r (r_lda (id := 2) (n := 2) rfl rfl rfl ag24) rfl ?_
  refine ol_r (r_lda (id := 3) (n := 6) rfl rfl rfl ag29) rfl ?_
  refine ol_call rfl rfl cb19 rfl (fun w1 hb1 hs1 hB1 => ?_)
  refine Calls.mono (ref5_Efforts nm _ _ _ gs A _ hn (hS.at hb1 hB1) (hA.at hb1 hB1)) ?_
  rintro e w2 ⟨a5, c5, L, rfl, hb2, hs2, hL⟩
  have hLf := (hs2.rd (by decide)).out.fit
  have hinn : ∀ (j : Nat) (x : Sl × List Int), L[j]? = some x → x.2.length = x.1.2.1 ∧ x.1.2.1 ≤ 9223372036854775807 := fun j x hj => ⟨((hs2.rd (by decide)).inn j x hj).len, ((hs2.rd (by decide)).inn j x hj).fit⟩
  refine After.moreE rfl hb1 hs1 hB1 hb2 (hs2.num (by decide) 1005 10000000 (by decide)) (by decide) (fun i hi _ => ?_) ?_
  · repeat' refine (look_cons_ne _ _ (by omega)).trans ?_
    rfl
  clear hs2 hb2 hB1 hs1 hb1 w2 w1
  refine ol_r (r_move rfl) rfl ?_
  refine ol_r (r_extract rfl rfl) rfl ?_
  refine ol_r (r_extract rfl rfl) rfl ?_
  refine ol_r (r_assign rfl) rfl ?_
  refine ol_r (r_assign rfl) rfl ?_
  refine ol_nil (to_k0 (fun _ _ h => h) (hK2 _ _ _ _ _ ?_))
  clear hK2
  refine wp_seq' fun K3 hK3 => ?_
  refine wp_seq' fun K4 hK4 => ?_
  refine wp_reg ?_
  refine ol_r (r_move rfl) rfl ?_
  refine ol_r (r_neq rfl rfl) rfl ?_
  refine ol_r (r_move rfl) rfl ?_
  refine ol_split (d := 21) rfl (fun hs21 => ?_) (fun hs21 => ?_)
  ·have phs21 := hs21; try simp only [decide_eq_true_eq, decide_eq_false_iff_not, Bool.not_eq_true', Bool.not_eq_false', Bool.not_true, Bool.not_false] at phs21
   refine ol_s rfl rfl hs21 rfl ?_
   refine ol_s rfl rfl hs21 rfl ?_
   refine ol_s rfl rfl hs21 rfl ?_
   refine ol_r (r_pickT rfl hs21 rfl) rfl ?_
   refine ol_nil (to_k0 (fun _ _ h => h) (hK4 _ _ _ _ _ ?_))
   clear hK4
   refine wp_condT rfl ?_
   refine wp_seq' fun K5 hK5 => ?_
   refine wp_reg ?_
   refine ol_r (r_build rfl (fun _ => bd49 _)) rfl ?_
   refine ol_r (r_move rfl) rfl ?_
   refine ol_store (id := 4) rfl rfl rfl rfl sz49 rfl rfl (by first | decide | exact Nat.zero_lt_succ _ | simp) ?_
   refine ol_r (r_assign rfl) rfl ?_
   refine ol_r (r_assign rfl) rfl ?_
   refine ol_nil (to_k0 (fun _ _ h => h) (hK5 _ _ _ _ _ ?_))
   clear hK5
   refine hQ.ret (rvs3 (rv_c (id := 4) (n := 1) rfl rfl ag49 rfl) (rv_t rfl) (rv_t rfl)) (fun _ _ h => h) fun w hb hs hB hkd => ?_
   exact ⟨none, 0, 0, by rw [bestR_e (by simpa using phs21)], hb, by rw [bestR_e (by simpa using phs21)]; exact (Sat.nil _ _).nilRow 1001 _ 1⟩
  ·have phs21 := hs21; try simp only [decide_eq_true_eq, decide_eq_false_iff_not, Bool.not_eq_true', Bool.not_eq_false', Bool.not_true, Bool.not_false] at phs21
   refine ol_g rfl rfl hs21 ?_
   refine ol_r (r_move rfl) rfl ?_
   refine ol_g rfl rfl hs21 ?_
   refine ol_r (r_len rfl sl44) rfl ?_
   refine ol_g rfl rfl hs21 ?_
   refine ol_r (r_eql rfl rfl) rfl ?_
   refine ol_r (r_pickF rfl hs21 rfl) rfl ?_
   refine ol_nil (to_k0 (fun _ _ h => h) (hK4 _ _ _ _ _ ?_))
   clear hK4
   refine wp_condD rfl (fun hc25 => ?_) (fun hc25 => ?_)
   ·refine wp_seq' fun K6 hK6 => ?_
    refine wp_reg ?_
    refine ol_r (r_build rfl (fun _ => bd49 _)) rfl ?_
    refine ol_r (r_move rfl) rfl ?_
    refine ol_store (id := 4) rfl rfl rfl rfl sz49 rfl rfl (by first | decide | exact Nat.zero_lt_succ _ | simp) ?_
    refine ol_r (r_assign rfl) rfl ?_
    refine ol_r (r_assign rfl) rfl ?_
    refine ol_nil (to_k0 (fun _ _ h => h) (hK6 _ _ _ _ _ ?_))
    clear hK6
    refine hQ.ret (rvs3 (rv_c (id := 4) (n := 1) rfl rfl ag49 rfl) (rv_t rfl) (rv_t rfl)) (fun _ _ h => h) fun w hb hs hB hkd => ?_
    have he0 : (effR nm gs A.d).2 = 0 := by simpa using phs21
    have h0 : bestR nm gs A.d = ([], false, 0) := bestR_n (fun h => h he0) (by rw [← hL, List.length_map]; omega)
    exact ⟨none, 0, 0, by rw [h0, he0], hb, by rw [h0]; exact (Sat.nil _ _).nilRow 1001 _ 1⟩
   ·refine wp_skip' (to_k0 (fun _ _ h => h) (hK3 _ _ _ _ _ ?_))
    clear hK3
    refine wp_seq' fun K7 hK7 => ?_
    refine wp_reg ?_
    refine ol_r (r_move rfl) rfl ?_
    refine ol_ixo (id := 1005) encSl _ rfl rfl rfl rfl sl44 (by omega) rfl fun x29 hx29 => ?_
    try simp only [Int.toNat_natCast] at hx29
    try simp only [Int.toNat_natCast] at hx29
    refine ol_r (r_ldw rfl (fun w1 hb1 hs1 hB1 => ld_own (id := 1005) hs1 rfl rfl ty49 hx29)) rfl ?_
    obtain ⟨y0, hy0, he0⟩ : ∃ y0, L[0]? = some y0 ∧ y0.1 = x29 := by
      have h9 : (L.map (·.1))[0]? = some x29 := by simpa using hx29
      rw [List.getElem?_map] at h9
      obtain ⟨y0, e1, e2⟩ := Option.map_eq_some_iff.1 h9
      exact ⟨y0, e1, e2⟩
    subst he0
    have hml : (L.map (·.1)).length = L.length := List.length_map _
    have he0 : (effR nm gs A.d).2 = 0 := by simpa using phs21
    have hno := effR_ok (fun h => h he0)
    have hgl := (or_both hno).1.len
    have hT : ∀ x ∈ L, Tms x.2 ∧ x.2.length = gs.length := fun x hx => effR_tms hno x.2 (by
      have h1 : x.2 ∈ L.map (·.2) := List.mem_map_of_mem hx
      rw [hL, effR_0 hno] at h1; exact h1)
    refine ol_alloc 9 z49 rfl fun b9 => ?_
    refine ol_store (id := 9) rfl rfl rfl rfl sz49 rfl rfl (by first | decide | exact Nat.zero_lt_succ _ | simp) ?_
    refine ol_nil (to_k0 (fun _ _ h => h) (hK7 _ _ _ _ _ ?_))
    clear hK7
    refine wp_seq' fun K8 hK8 => ?_
    refine wp_reg ?_
    refine ol_r (r_fa (o' := 1) rfl fl24_1 rfl) rfl ?_
    refine ol_r (r_ld (id := 2) rfl rfl rfl sc22) rfl ?_
    refine ol_r (r_len rfl sl22) rfl ?_
    refine ol_r (r_sub rfl rfl (by omega)) rfl ?_
    refine ol_r (r_assign rfl) rfl ?_
    refine ol_nil (to_k0 (fun _ _ h => h) (hK8 _ _ _ _ _ ?_))
    clear hK8
    refine wp_seq' fun K9 hK9 => ?_
    refine wp_seq' fun K10 hK10 => ?_
    refine wp_reg ?_
    refine ol_r (r_move rfl) rfl ?_
    refine ol_r (r_len rfl sl44) rfl ?_
    refine ol_r (r_move rfl) rfl ?_
    refine ol_nil (to_k0 (fun _ _ h => h) (hK10 _ _ _ _ _ ?_))
    clear hK10
    refine wp_block' ?_
    apply wp_loopT (σ := Nat × (Sl × List Int)) (fun s => s.1 ≤ L.length ∧ L[bestK (L.map (·.2)) s.1]? = some s.2) (fun s => [(37, .int .i64 s.1)]) [(4, _), (5, _), (6, _), (9, _), (10, _), (35, _), (36, _)] (fun s => [(9, .blk b9 (pairs 0 [.slice s.2.1.1 s.2.1.2.1 s.2.1.2.2]) 49)]) [(2, _), (3, _), (4, _), (1005, _)] (fun s => innH 3 10000000 L) (fun s => L.length - s.1) ((0, y0))
    ·try dsimp only
     exact ⟨by omega, hy0⟩
    ·exact (sub_cons rfl sub_nil)
    ·exact (sub_cons rfl (sub_cons rfl (sub_cons rfl (sub_cons rfl (sub_cons rfl (sub_cons rfl (sub_cons rfl sub_nil)))))))
    ·exact (subH_blk rfl (by repeat' first | exact sub_nil | refine sub_cons rfl ?_) subH_nil)
    ·exact (subH_same rfl (subH_same rfl (subH_same rfl (subH_same rfl subH_nil))))
    ·refine subH_inn fun j x hj => ?_
     repeat' refine (look_cons_ne _ _ (by omega)).trans ?_
     exact look_inn hj
    ·rintro ⟨k, y⟩ ⟨hk, hy⟩
     dsimp only at hk hy ⊢
     intro K11 hK11
     refine wp_seq' fun K12 hK12 => ?_
     refine wp_reg ?_
     refine ol_r (r_lss rfl rfl) rfl ?_
     refine ol_nil (to_k0 (fun _ _ h => h) (hK12 _ _ _ _ _ ?_))
     clear hK12
     refine wp_seq' fun K13 hK13 => ?_
     refine wp_condD rfl (fun hc38 => ?_) (fun hc38 => ?_)
     ·refine wp_skip' (to_k0 (fun _ _ h => h) (hK13 _ _ _ _ _ ?_))
      clear hK13
      refine wp_seq' fun K14 hK14 => ?_
      refine wp_block' ?_
      refine wp_seq' fun K15 hK15 => ?_
      refine wp_reg ?_
      refine ol_ixo (id := 1005) encSl _ rfl rfl rfl rfl sl44 (by omega) rfl fun x39 hx39 => ?_
      try simp only [Int.toNat_natCast] at hx39
      try simp only [Int.toNat_natCast] at hx39
      refine ol_r (r_ldw rfl (fun w1 hb1 hs1 hB1 => ld_own (id := 1005) hs1 rfl rfl ty49 hx39)) rfl ?_
      obtain ⟨z, hz, hez⟩ : ∃ z, L[k]? = some z ∧ z.1 = x39 := by
        have h9 : (L.map (·.1))[k]? = some x39 := by simpa using hx39
        rw [List.getElem?_map] at h9
        obtain ⟨y0, e1, e2⟩ := Option.map_eq_some_iff.1 h9
        exact ⟨y0, e1, e2⟩
      subst hez
      have hzi := hinn k z hz
      have hyi := hinn _ y hy
      have hzt := hT z (List.mem_of_getElem? hz)
      have hyt := hT y (List.mem_of_getElem? hy)
      refine ol_alloc 12 z49 rfl fun b12 => ?_
      refine ol_store (id := 12) rfl rfl rfl rfl sz49 rfl rfl (by first | decide | exact Nat.zero_lt_succ _ | simp) ?_
      refine ol_nil (to_k0 (fun _ _ h => h) (hK15 _ _ _ _ _ ?_))
      clear hK15
      refine wp_seq' fun K16 hK16 => ?_
      refine wp_regq (by kernel_rfl) (by kernel_rfl) ?_
      refine ql_r (r_fa (o' := 0) rfl fl49_0 rfl) rfl ?_
      refine ql_r (r_ld (id := 12) rfl rfl rfl sc47) rfl ?_
      refine ql_r (r_move rfl) rfl ?_
      refine ql_ixo (id := (10000000 + k)) encI z.2 rfl ((by (repeat' refine (look_cons_ne _ _ (by omega)).trans ?_); exact look_inn hz)) rfl rfl sl47 (by omega) (by omega) rfl fun x44 hx44 => ?_
      try simp only [Int.toNat_natCast] at hx44
      refine ql_r (r_ldw rfl (fun w1 hb1 hs1 hB1 => show Loads _ _ _ _ (.int .i64 x44) from ld_own (id := (10000000 + k)) hs1 ((by (repeat' refine (look_cons_ne _ _ (by omega)).trans ?_); exact look_inn hz)) rfl ty3 hx44)) rfl ?_
      refine ql_r (r_fa (o' := 0) rfl fl49_0 rfl) rfl ?_
      refine ql_r (r_ld (id := 12) rfl rfl rfl sc47) rfl ?_
      refine ql_ixo (id := (10000000 + k)) encI z.2 rfl ((by (repeat' refine (look_cons_ne _ _ (by omega)).trans ?_); exact look_inn hz)) rfl rfl sl47 (by omega) (by omega) rfl fun x48 hx48 => ?_
      try simp only [Int.toNat_natCast] at hx48
      refine ql_r (r_ldw rfl (fun w1 hb1 hs1 hB1 => show Loads _ _ _ _ (.int .i64 x48) from ld_own (id := (10000000 + k)) hs1 ((by (repeat' refine (look_cons_ne _ _ (by omega)).trans ?_); exact look_inn hz)) rfl ty3 hx48)) rfl ?_
      have v1 := hzt.1.2 _ (List.mem_of_getElem? hx44)
      have v2 := hzt.1.2 _ (List.mem_of_getElem? hx48)
      refine ql_r (r_sub rfl rfl (by omega)) rfl ?_
      refine ql_r (r_fa (o' := 0) rfl fl49_0 rfl) rfl ?_
      refine ql_r (r_ld (id := 9) rfl rfl rfl sc47) rfl ?_
      refine ql_r (r_move rfl) rfl ?_
      refine ql_ixo (id := (10000000 + bestK (L.map (·.2)) k)) encI y.2 rfl ((by (repeat' refine (look_cons_ne _ _ (by omega)).trans ?_); exact look_inn hy)) rfl rfl sl47 (by omega) (by omega) rfl fun x54 hx54 => ?_
      try simp only [Int.toNat_natCast] at hx54
      refine ql_r (r_ldw rfl (fun w1 hb1 hs1 hB1 => show Loads _ _ _ _ (.int .i64 x54) from ld_own (id := (10000000 + bestK (L.map (·.2)) k)) hs1 ((by (repeat' refine (look_cons_ne _ _ (by omega)).trans ?_); exact look_inn hy)) rfl ty3 hx54)) rfl ?_
      refine ql_r (r_fa (o' := 0) rfl fl49_0 rfl) rfl ?_
      refine ql_r (r_ld (id := 9) rfl rfl rfl sc47) rfl ?_
      refine ql_ixo (id := (10000000 + bestK (L.map (·.2)) k)) encI y.2 rfl ((by (repeat' refine (look_cons_ne _ _ (by omega)).trans ?_); exact look_inn hy)) rfl rfl sl47 (by omega) (by omega) rfl fun x58 hx58 => ?_
      try simp only [Int.toNat_natCast] at hx58
      refine ql_r (r_ldw rfl (fun w1 hb1 hs1 hB1 => show Loads _ _ _ _ (.int .i64 x58) from ld_own (id := (10000000 + bestK (L.map (·.2)) k)) hs1 ((by (repeat' refine (look_cons_ne _ _ (by omega)).trans ?_); exact look_inn hy)) rfl ty3 hx58)) rfl ?_
      have v3 := hyt.1.2 _ (List.mem_of_getElem? hx54)
      have v4 := hyt.1.2 _ (List.mem_of_getElem? hx58)
      refine ql_r (r_sub rfl rfl (by omega)) rfl ?_
      have ez : longV z.2 = x44 - x48 := longV_eq (by rw [← hx44]; congr 1; omega) (by simpa using hx48)
      have ey : longV y.2 = x54 - x58 := longV_eq (by rw [← hx54]; congr 1; omega) (by simpa using hx58)
      refine ql_r (r_lss rfl rfl) rfl ?_
      refine ql_nil (to_k0 (fun _ _ h => h) (hK16 _ _ _ _ _ ?_))
      clear hK16
      refine wp_condD rfl (fun hc61 => ?_) (fun hc61 => ?_)
      ·refine wp_reg ?_
       refine ol_r (r_lda (id := 12) (n := 1) rfl rfl rfl ag49) rfl ?_
       refine ol_store (id := 9) rfl rfl rfl rfl sz49 rfl rfl (by first | decide | exact Nat.zero_lt_succ _ | simp) ?_
       refine ol_nil (to_k0 (fun _ _ h => h) (hK14 _ _ _ _ _ ?_))
       clear hK14
       refine wp_reg ?_
       refine ol_r (r_add rfl rfl (by omega)) rfl ?_
       refine ol_r (r_move rfl) rfl ?_
       refine ol_nil (to_k0 (fun _ _ h => h) (hK11 ((k + 1, z)) _ _ ?_ ?_ (sub_cons rfl sub_nil) (sub_cons rfl (sub_cons rfl (sub_cons rfl (sub_cons rfl (sub_cons rfl (sub_cons rfl (sub_cons rfl sub_nil))))))) (by exact (subH_blk rfl (by repeat' first | exact sub_nil | refine sub_cons rfl ?_) subH_nil)) (subH_same rfl (subH_same rfl (subH_same rfl (subH_same rfl subH_nil)))) ?_))
       ·try dsimp only
        exact ⟨by omega, by rw [bestK_yes (k := k) (by rw [List.getElem?_map, hz]; rfl) (by rw [getD_map hy, ez, ey]; exact hc61)]; exact hz⟩
       ·try dsimp only
        omega
       ·try dsimp only
        refine subH_inn fun j x hj => ?_
        repeat' refine (look_cons_ne _ _ (by omega)).trans ?_
        exact look_inn hj
      ·refine wp_skip' (to_k0 (fun _ _ h => h) (hK14 _ _ _ _ _ ?_))
       clear hK14
       refine wp_reg ?_
       refine ol_r (r_add rfl rfl (by omega)) rfl ?_
       refine ol_r (r_move rfl) rfl ?_
       refine ol_nil (to_k0 (fun _ _ h => h) (hK11 ((k + 1, y)) _ _ ?_ ?_ (sub_cons rfl sub_nil) (sub_cons rfl (sub_cons rfl (sub_cons rfl (sub_cons rfl (sub_cons rfl (sub_cons rfl (sub_cons rfl sub_nil))))))) (by exact (subH_blk rfl (by repeat' first | exact sub_nil | refine sub_cons rfl ?_) subH_nil)) (subH_same rfl (subH_same rfl (subH_same rfl (subH_same rfl subH_nil)))) ?_))
       ·try dsimp only
        exact ⟨by omega, by rw [bestK_no (k := k) (by rw [List.getElem?_map, hz]; rfl) (by rw [getD_map hy, ez, ey]; exact hc61)]; exact hy⟩
       ·try dsimp only
        omega
       ·try dsimp only
        refine subH_inn fun j x hj => ?_
        repeat' refine (look_cons_ne _ _ (by omega)).trans ?_
        exact look_inn hj
     ·refine wp_exit' (to_k0 (fun _ _ h => h) (hK9 _ _ _ _ _ ?_))
      clear hK9
      refine wp_seq' fun K17 hK17 => ?_
      refine wp_reg ?_
      refine ol_r (r_lda (id := 9) (n := 1) rfl rfl rfl ag49) rfl ?_
      refine ol_store (id := 4) rfl rfl rfl rfl sz49 rfl rfl (by first | decide | exact Nat.zero_lt_succ _ | simp) ?_
      refine ol_r (r_assign rfl) rfl ?_
      refine ol_r (r_assign rfl) rfl ?_
      refine ol_nil (to_k0 (fun _ _ h => h) (hK17 _ _ _ _ _ ?_))
      clear hK17
      refine hQ.ret (rvs3 (rv_c (id := 4) (n := 1) rfl rfl ag49 rfl) (rv_t rfl) (rv_t rfl)) (fun _ _ h => h) fun w hb hs hB hkd => ?_
      obtain rfl : k = L.length := by omega
      have h0 := bestR_y (d := A.d) (nm := nm) (fun h => h he0) hL hy (by omega)
      refine ⟨_, _, _, by rw [h0], hb, ?_⟩
      rw [h0]
      refine hs.one (10000000 + bestK (L.map (·.2)) L.length) 1001 (f := rowOf 3 y) ?_ (Ent.le_refl _)
      repeat' refine (look_cons_ne _ _ (by omega)).trans ?_
      exact look_inn hy
theorem effR_len (nm : ByteArray) (gs : List GateR) (A : ActV) : (effR nm gs A.d).1.length ≤ 1000000 := by
  by_cases h : orL [chkSeg nm gs, chkA A.d] ≠ 0
  · rw [effR_e h]; exact Nat.zero_le _
  · rw [effR_0 h]
    obtain ⟨hseg, hok⟩ := or_both h
    have h1 := effN_cnt gs.length (crossS gs (stepsL A.ss) (stepsL A.ss).length) (crossS gs (stepsL A.ss) (stepsL A.ss).length).length
    have h2 := crossS_len gs (stepsL A.ss) (stepsL A.ss).length
    have h3 : gs.length * (stepsL A.ss).length ≤ 50 * 20000 := Nat.mul_le_mul hseg.len.2 (by rw [stepsL_len]; have := hok.len; omega)
    show (effL gs.length (crossS gs (stepsL A.ss) (stepsL A.ss).length)).length ≤ 1000000
    unfold effL
    omega
theorem equal_ints_same (a b : Option Addr) (n m c1 c2 : Nat) (xs : List Int) (w : World) (hx : Rd encI w.heap.size w a n c1 xs) (hy : Rd encI w.heap.size w b m c2 xs) :
    Calls Try.prog 23 #[.slice a n c1, .slice b m c2] w fun e w' => e = .returned (.bool true) ∧ Below w.heap.size w w' := by
  have hn := hx.len
  have hm := hy.len
  obtain rfl : n = m := by omega
  have hfit := hx.fit
  refine enterQ (N := 26) (C := fun _ => True) (H := []) (B := w.heap.size) (args := [_, _]) Try.func23 rfl rfl rfl (Nat.le_refl _) (Sat.nil _ _) fun Q hQ => ?_
  refine wp_seq' fun K1 hK1 => ?_
  refine wp_reg ?_
  refine ol_r (r_assign rfl) rfl ?_
  refine ol_nil (to_k0 (fun _ _ h => h) (hK1 _ _ _ _ _ ?_))
  clear hK1
  refine wp_seq' fun K2 hK2 => ?_
  refine wp_seq' fun K3 hK3 => ?_
  refine wp_reg ?_
  refine ol_r (r_move rfl) rfl ?_
  refine ol_r (r_len rfl sl47) rfl ?_
  refine ol_r (r_move rfl) rfl ?_
  refine ol_r (r_len rfl sl47) rfl ?_
  refine ol_r (r_neq rfl rfl) rfl ?_
  refine ol_nil (to_k0 (fun _ _ h => h) (hK3 _ _ _ _ _ ?_))
  clear hK3
  refine wp_condD rfl (fun hc10 => ?_) (fun hc10 => ?_)
  ·exfalso
   exact hc10 rfl
  ·refine wp_skip' (to_k0 (fun _ _ h => h) (hK2 _ _ _ _ _ ?_))
   clear hK2
   refine wp_seq' fun K4 hK4 => ?_
   refine wp_seq' fun K5 hK5 => ?_
   refine wp_reg ?_
   refine ol_r (r_move rfl) rfl ?_
   refine ol_r (r_len rfl sl47) rfl ?_
   refine ol_r (r_move rfl) rfl ?_
   refine ol_nil (to_k0 (fun _ _ h => h) (hK5 _ _ _ _ _ ?_))
   clear hK5
   refine wp_block' ?_
   apply wp_loopM (σ := Nat) (fun s => s ≤ n) (fun s => [(13, .int .i64 s)]) [(0, _), (1, _), (12, _)] (fun s => []) [] (fun s => n - s) (0)
   ·try dsimp only
    exact Nat.zero_le _
   ·exact (sub_cons rfl sub_nil)
   ·exact (sub_cons rfl (sub_cons rfl (sub_cons rfl sub_nil)))
   ·exact subH_nil
   ·exact subH_nil
   ·rintro k hk
    intro K6 hK6
    refine wp_seq' fun K7 hK7 => ?_
    refine wp_reg ?_
    refine ol_r (r_lss rfl rfl) rfl ?_
    refine ol_nil (to_k0 (fun _ _ h => h) (hK7 _ _ _ _ _ ?_))
    clear hK7
    refine wp_seq' fun K8 hK8 => ?_
    refine wp_condD rfl (fun hc14 => ?_) (fun hc14 => ?_)
    ·refine wp_skip' (to_k0 (fun _ _ h => h) (hK8 _ _ _ _ _ ?_))
     clear hK8
     refine wp_seq' fun K9 hK9 => ?_
     refine wp_block' ?_
     refine wp_seq' fun K10 hK10 => ?_
     refine wp_reg ?_
     refine ol_r (r_move rfl) rfl ?_
     refine ol_r (r_assign rfl) rfl ?_
     refine ol_nil (to_k0 (fun _ _ h => h) (hK10 _ _ _ _ _ ?_))
     clear hK10
     refine wp_seq' fun K11 hK11 => ?_
     refine wp_regq (by kernel_rfl) (by kernel_rfl) ?_
     refine ql_r (r_move rfl) rfl ?_
     refine ql_r (r_move rfl) rfl ?_
     refine ql_ixr hx rfl rfl sl47 (by omega) rfl fun x18 hx18 => ?_
     try simp only [Int.toNat_natCast] at hx18
     refine ql_r (r_ldw rfl (fun w1 hb1 hs1 hB1 => show Loads _ _ _ _ (.int .i64 x18) from Rd.loads hx ty3 hx18 hb1)) rfl ?_
     refine ql_r (r_move rfl) rfl ?_
     refine ql_r (r_move rfl) rfl ?_
     refine ql_ixr hy rfl rfl sl47 (by omega) rfl fun x22 hx22 => ?_
     try simp only [Int.toNat_natCast] at hx22
     refine ql_r (r_ldw rfl (fun w1 hb1 hs1 hB1 => show Loads _ _ _ _ (.int .i64 x22) from Rd.loads hy ty3 hx22 hb1)) rfl ?_
     obtain rfl : x18 = x22 := Option.some.inj (hx18.symm.trans hx22)
     refine ql_r (r_neq rfl rfl) rfl ?_
     refine ql_nil (to_k0 (fun _ _ h => h) (hK11 _ _ _ _ _ ?_))
     clear hK11
     refine wp_condD rfl (fun hc24 => ?_) (fun hc24 => ?_)
     ·refine wp_seq' fun K12 hK12 => ?_
      refine wp_reg ?_
      refine ol_r (r_assign rfl) rfl ?_
      refine ol_nil (to_k0 (fun _ _ h => h) (hK12 _ _ _ _ _ ?_))
      clear hK12
      refine hQ.ret (rvs1 (rv_t rfl)) (fun _ _ h => h) fun w hb hs hB hkd => ?_
      first
        | (exfalso; omega)
     ·refine wp_skip' (to_k0 (fun _ _ h => h) (hK9 _ _ _ _ _ ?_))
      clear hK9
      refine wp_reg ?_
      refine ol_r (r_add rfl rfl (by omega)) rfl ?_
      refine ol_r (r_move rfl) rfl ?_
      refine ol_nil (to_k0 (fun _ _ h => h) (hK6 (k + 1) _ _ ?_ ?_ (sub_cons rfl sub_nil) (sub_cons rfl (sub_cons rfl (sub_cons rfl sub_nil))) (by exact subH_nil) subH_nil))
      ·try dsimp only
       omega
      ·try dsimp only
       omega
    ·refine wp_exit' (to_k0 (fun _ _ h => h) (hK4 _ _ _ _ _ ?_))
     clear hK4
     refine wp_seq' fun K13 hK13 => ?_
     refine wp_reg ?_
     refine ol_r (r_assign rfl) rfl ?_
     refine ol_nil (to_k0 (fun _ _ h => h) (hK13 _ _ _ _ _ ?_))
     clear hK13
     refine hQ.ret (rvs1 (rv_t rfl)) (fun _ _ h => h) fun w hb hs hB hkd => ?_
     first
       | exact ⟨rfl, hb⟩
theorem same_one (a b : Option Addr) (n m c1 c2 : Nat) (xs : List Int) (w : World) (hx : Rd encI w.heap.size w a n c1 xs) (hy : Rd encI w.heap.size w b m c2 xs) :
    Calls Try.prog 57 #[.agg #[.slice a n c1], .agg #[.slice b m c2]] w fun e w' => e = .returned (.bool true) ∧ Below w.heap.size w w' := by
  refine enterQ (N := 10) (C := fun _ => True) (H := []) (B := w.heap.size) (args := [_, _]) Try.func57 rfl rfl rfl (Nat.le_refl _) (Sat.nil _ _) fun Q hQ => ?_
  refine wp_seq' fun K1 hK1 => ?_
  refine wp_reg ?_
  refine ol_box 2 rfl rfl rfl fun b2 => ?_
  refine ol_box 3 rfl rfl rfl fun b3 => ?_
  refine ol_r (r_assign rfl) rfl ?_
  refine ol_nil (to_k0 (fun _ _ h => h) (hK1 _ _ _ _ _ ?_))
  clear hK1
  refine wp_seq' fun K2 hK2 => ?_
  refine wp_reg ?_
  refine ol_r (r_fa (o' := 0) rfl fl49_0 rfl) rfl ?_
  refine ol_r (r_ld (id := 2) rfl rfl rfl sc47) rfl ?_
  refine ol_r (r_fa (o' := 0) rfl fl49_0 rfl) rfl ?_
  refine ol_r (r_ld (id := 3) rfl rfl rfl sc47) rfl ?_
  refine ol_call rfl rfl cb23 rfl (fun w1 hb1 hs1 hB1 => Calls.mono (equal_ints_same _ _ _ _ _ _ xs _ (hx.at hb1 hB1) (hy.at hb1 hB1)) ?_)
  rintro e w2 ⟨rfl, hb2⟩
  refine After.below rfl hb1 hs1 hB1 hb2 ?_
  clear hb2 hB1 hs1 hb1 w2 w1
  refine ol_r (r_assign rfl) rfl ?_
  refine ol_nil (to_k0 (fun _ _ h => h) (hK2 _ _ _ _ _ ?_))
  clear hK2
  refine hQ.ret (rvs1 (rv_t rfl)) (fun _ _ h => h) fun w hb hs hB hkd => ?_
  exact ⟨rfl, hb⟩
theorem same_func (a b : Option Addr) (n c1 c2 : Nat) (L M : List (Sl × List Int)) (w : World) (hL : RdE w.heap.size w a n c1 L) (hM : RdE w.heap.size w b n c2 M) (hLM : L.map (·.2) = M.map (·.2)) :
    Calls Try.prog 56 #[.slice a n c1, .slice b n c2, .func (.func 57) #[] #[]] w fun e w' => e = .returned (.bool true) ∧ Below w.heap.size w w' := by
  have hn := hL.len
  have hO := hL.out
  have hO2 := hM.out
  have hf := hO.fit
  have hml : (L.map (·.1)).length = n := by rw [List.length_map]; exact hn
  have hml2 : (M.map (·.1)).length = n := by rw [List.length_map]; exact hM.len
  refine enterQ (N := 32) (C := fun _ => True) (H := []) (B := w.heap.size) (args := [_, _, _]) Try.func56 rfl rfl rfl (Nat.le_refl _) (Sat.nil _ _) fun Q hQ => ?_
  refine wp_seq' fun K1 hK1 => ?_
  refine wp_reg ?_
  refine ol_r (r_assign rfl) rfl ?_
  refine ol_nil (to_k0 (fun _ _ h => h) (hK1 _ _ _ _ _ ?_))
  clear hK1
  refine wp_seq' fun K2 hK2 => ?_
  refine wp_seq' fun K3 hK3 => ?_
  refine wp_reg ?_
  refine ol_r (r_move rfl) rfl ?_
  refine ol_r (r_len rfl sl44) rfl ?_
  refine ol_r (r_move rfl) rfl ?_
  refine ol_r (r_len rfl sl44) rfl ?_
  refine ol_r (r_neq rfl rfl) rfl ?_
  refine ol_nil (to_k0 (fun _ _ h => h) (hK3 _ _ _ _ _ ?_))
  clear hK3
  refine wp_condD rfl (fun hc14 => ?_) (fun hc14 => ?_)
  ·exfalso
   exact hc14 rfl
  ·refine wp_skip' (to_k0 (fun _ _ h => h) (hK2 _ _ _ _ _ ?_))
   clear hK2
   refine wp_seq' fun K4 hK4 => ?_
   refine wp_seq' fun K5 hK5 => ?_
   refine wp_reg ?_
   refine ol_r (r_move rfl) rfl ?_
   refine ol_r (r_len rfl sl44) rfl ?_
   refine ol_r (r_move rfl) rfl ?_
   refine ol_nil (to_k0 (fun _ _ h => h) (hK5 _ _ _ _ _ ?_))
   clear hK5
   refine wp_block' ?_
   apply wp_loopM (σ := Nat) (fun s => s ≤ n) (fun s => [(17, .int .i64 s)]) [(1, _), (2, _), (15, _), (16, _)] (fun s => []) [] (fun s => n - s) (0)
   ·try dsimp only
    exact Nat.zero_le _
   ·exact (sub_cons rfl sub_nil)
   ·exact (sub_cons rfl (sub_cons rfl (sub_cons rfl (sub_cons rfl sub_nil))))
   ·exact subH_nil
   ·exact subH_nil
   ·rintro k hk
    intro K6 hK6
    refine wp_seq' fun K7 hK7 => ?_
    refine wp_reg ?_
    refine ol_r (r_lss rfl rfl) rfl ?_
    refine ol_nil (to_k0 (fun _ _ h => h) (hK7 _ _ _ _ _ ?_))
    clear hK7
    refine wp_seq' fun K8 hK8 => ?_
    refine wp_condD rfl (fun hc18 => ?_) (fun hc18 => ?_)
    ·refine wp_skip' (to_k0 (fun _ _ h => h) (hK8 _ _ _ _ _ ?_))
     clear hK8
     refine wp_seq' fun K9 hK9 => ?_
     refine wp_block' ?_
     refine wp_seq' fun K10 hK10 => ?_
     refine wp_reg ?_
     refine ol_r (r_move rfl) rfl ?_
     refine ol_ixr hO rfl rfl sl44 (by omega) rfl fun x20 hx20 => ?_
     try simp only [Int.toNat_natCast] at hx20
     refine ol_r (r_ldw rfl (fun w1 hb1 hs1 hB1 => Rd.loads hO ty49 hx20 hb1)) rfl ?_
     refine ol_alloc 8 z49 rfl fun b8 => ?_
     refine ol_r (r_assign rfl) rfl ?_
     refine ol_store (id := 8) rfl rfl rfl rfl sz49 rfl rfl (by first | decide | exact Nat.zero_lt_succ _ | simp) ?_
     refine ol_nil (to_k0 (fun _ _ h => h) (hK10 _ _ _ _ _ ?_))
     clear hK10
     refine wp_seq' fun K11 hK11 => ?_
     refine wp_reg ?_
     refine ol_r (r_move rfl) rfl ?_
     refine ol_r (r_move rfl) rfl ?_
     refine ol_ixr hO2 rfl rfl sl44 (by omega) rfl fun x24 hx24 => ?_
     try simp only [Int.toNat_natCast] at hx24
     refine ol_r (r_ldw rfl (fun w1 hb1 hs1 hB1 => Rd.loads hO2 ty49 hx24 hb1)) rfl ?_
     refine ol_alloc 9 z49 rfl fun b9 => ?_
     refine ol_store (id := 9) rfl rfl rfl rfl sz49 rfl rfl (by first | decide | exact Nat.zero_lt_succ _ | simp) ?_
     refine ol_nil (to_k0 (fun _ _ h => h) (hK11 _ _ _ _ _ ?_))
     clear hK11
     refine wp_seq' fun K12 hK12 => ?_
     refine wp_reg ?_
     refine ol_r (r_move rfl) rfl ?_
     refine ol_r (r_lda (id := 8) (n := 1) rfl rfl rfl ag49) rfl ?_
     refine ol_r (r_lda (id := 9) (n := 1) rfl rfl rfl ag49) rfl ?_
     obtain ⟨y, hy, hey⟩ : ∃ y, L[k]? = some y ∧ y.1 = x20 := by
       have h9 : (L.map (·.1))[k]? = some x20 := by simpa using hx20
       rw [List.getElem?_map] at h9
       obtain ⟨y0, e1, e2⟩ := Option.map_eq_some_iff.1 h9
       exact ⟨y0, e1, e2⟩
     obtain ⟨z, hz, hez⟩ : ∃ z, M[k]? = some z ∧ z.1 = x24 := by
       have h9 : (M.map (·.1))[k]? = some x24 := by simpa using hx24
       rw [List.getElem?_map] at h9
       obtain ⟨y0, e1, e2⟩ := Option.map_eq_some_iff.1 h9
       exact ⟨y0, e1, e2⟩
     subst hey
     subst hez
     have hyz : z.2 = y.2 := by
       have h1 : (L.map (·.2))[k]? = some y.2 := by rw [List.getElem?_map, hy]; rfl
       rw [hLM, List.getElem?_map, hz] at h1
       exact Option.some.inj h1
     have hzr := hM.inn k z hz
     rw [hyz] at hzr
     refine ol_call rfl rfl cb57 rfl (fun w1 hb1 hs1 hB1 => Calls.mono (same_one _ _ _ _ _ _ y.2 _ ((hL.inn k y hy).at hb1 hB1) (hzr.at hb1 hB1)) ?_)
     rintro e w2 ⟨rfl, hb2⟩
     refine After.below rfl hb1 hs1 hB1 hb2 ?_
     clear hb2 hB1 hs1 hb1 w2 w1
     refine ol_r (r_not rfl) rfl ?_
     refine ol_nil (to_k0 (fun _ _ h => h) (hK12 _ _ _ _ _ ?_))
     clear hK12
     refine wp_condNB rfl (fun hc30 => ?_) (fun hc30 => ?_)
     ·exfalso
      cases hc30
     ·refine wp_skip' (to_k0 (fun _ _ h => h) (hK9 _ _ _ _ _ ?_))
      clear hK9
      refine wp_reg ?_
      refine ol_r (r_add rfl rfl (by omega)) rfl ?_
      refine ol_r (r_move rfl) rfl ?_
      refine ol_nil (to_k0 (fun _ _ h => h) (hK6 (k + 1) _ _ ?_ ?_ (sub_cons rfl sub_nil) (sub_cons rfl (sub_cons rfl (sub_cons rfl (sub_cons rfl sub_nil)))) (by exact subH_nil) subH_nil))
      ·try dsimp only
       omega
      ·try dsimp only
       omega
    ·refine wp_exit' (to_k0 (fun _ _ h => h) (hK4 _ _ _ _ _ ?_))
     clear hK4
     refine wp_seq' fun K13 hK13 => ?_
     refine wp_reg ?_
     refine ol_r (r_assign rfl) rfl ?_
     refine ol_nil (to_k0 (fun _ _ h => h) (hK13 _ _ _ _ _ ?_))
     clear hK13
     refine hQ.ret (rvs1 (rv_t rfl)) (fun _ _ h => h) fun w hb hs hB hkd => ?_
     exact ⟨rfl, hb⟩
theorem law5_same_eff (a b : Option Addr) (n c1 c2 : Nat) (L M : List (Sl × List Int)) (w : World) (hL : RdE w.heap.size w a n c1 L) (hM : RdE w.heap.size w b n c2 M) (hLM : L.map (·.2) = M.map (·.2)) :
    Calls Try.prog 22 #[.slice a n c1, .slice b n c2] w fun e w' => e = .returned (.bool true) ∧ Below w.heap.size w w' := by
  refine enterQ (N := 8) (C := fun _ => True) (H := []) (B := w.heap.size) (args := [_, _]) Try.func22 rfl rfl rfl (Nat.le_refl _) (Sat.nil _ _) fun Q hQ => ?_
  refine wp_seq' fun K1 hK1 => ?_
  refine wp_reg ?_
  refine ol_r (r_assign rfl) rfl ?_
  refine ol_nil (to_k0 (fun _ _ h => h) (hK1 _ _ _ _ _ ?_))
  clear hK1
  refine wp_seq' fun K2 hK2 => ?_
  refine wp_reg ?_
  refine ol_r (r_move rfl) rfl ?_
  refine ol_r (r_move rfl) rfl ?_
  refine ol_call rfl rfl cb56 rfl (fun w1 hb1 hs1 hB1 => Calls.mono (same_func _ _ _ _ _ L M _ (hL.at hb1 hB1) (hM.at hb1 hB1) hLM) ?_)
  rintro e w2 ⟨rfl, hb2⟩
  refine After.below rfl hb1 hs1 hB1 hb2 ?_
  clear hb2 hB1 hs1 hb1 w2 w1
  refine ol_r (r_assign rfl) rfl ?_
  refine ol_nil (to_k0 (fun _ _ h => h) (hK2 _ _ _ _ _ ?_))
  clear hK2
  refine hQ.ret (rvs1 (rv_t rfl)) (fun _ _ h => h) fun w hb hs hB hkd => ?_
  exact ⟨rfl, hb⟩
theorem law_efforts (nm : ByteArray) (ga : Option Addr) (gn gc : Nat) (gs : List GateR) (A : ActV) (w : World) (hn : nm.size ≤ 9223372036854775807) (hS : Rd encGate w.heap.size w ga gn gc gs) (hA : A.Ok w.heap.size w) :
    Calls Try.prog 5 #[.agg #[.string nm, .slice ga gn gc], .agg #[.string A.name, .int .i64 A.sport, .int .i64 A.start, .slice A.sa A.sn A.sc, .slice A.la A.ln A.lc, .slice A.ta A.tn A.tc]] w fun e w' => e = .returned (.bool true) ∧ Below w.heap.size w w' := by
  refine enterQ (N := 69) (C := fun _ => True) (H := []) (B := w.heap.size) (args := [_, _]) Try.func5 rfl rfl rfl (Nat.le_refl _) (Sat.nil _ _) fun Q hQ => ?_
  refine wp_seq' fun K1 hK1 => ?_
  refine wp_reg ?_
  refine ol_box 2 rfl rfl rfl fun b2 => ?_
  refine ol_box 3 rfl rfl rfl fun b3 => ?_
  refine ol_r (r_assign rfl) rfl ?_
  refine ol_nil (to_k0 (fun _ _ h => h) (hK1 _ _ _ _ _ ?_))
  clear hK1
  refine wp_seq' fun K2 hK2 => ?_
  refine wp_reg ?_
  refine ol_r (r_lda (id := 2) (n := 2) rfl rfl rfl ag24) rfl ?_
  refine ol_r (r_lda (id := 3) (n := 6) rfl rfl rfl ag29) rfl ?_
  refine ol_call rfl rfl cb18 rfl (fun w1 hb1 hs1 hB1 => ?_)
  refine Calls.mono (match_Efforts nm _ _ _ gs A _ hn (hS.at hb1 hB1) (hA.at hb1 hB1)) ?_
  rintro e w2 ⟨a5, c5, L, rfl, hb2, hs2, hL⟩
  have hLl : L.length ≤ 1000000000 := by
    have h1 := effR_len nm gs A
    rw [← hL, List.length_map] at h1; omega
  refine After.moreE rfl hb1 hs1 hB1 hb2 (hs2.num (by decide) 1005 10000000000 (by decide)) (by decide) (fun i hi _ => ?_) ?_
  · repeat' refine (look_cons_ne _ _ (by omega)).trans ?_
    rfl
  clear hs2 hb2 hB1 hs1 hb1 w2 w1
  refine ol_r (r_move rfl) rfl ?_
  refine ol_r (r_extract rfl rfl) rfl ?_
  refine ol_r (r_extract rfl rfl) rfl ?_
  refine ol_r (r_assign rfl) rfl ?_
  refine ol_r (r_assign rfl) rfl ?_
  refine ol_nil (to_k0 (fun _ _ h => h) (hK2 _ _ _ _ _ ?_))
  clear hK2
  refine wp_seq' fun K3 hK3 => ?_
  refine wp_reg ?_
  refine ol_r (r_lda (id := 2) (n := 2) rfl rfl rfl ag24) rfl ?_
  refine ol_r (r_lda (id := 3) (n := 6) rfl rfl rfl ag29) rfl ?_
  refine ol_call rfl rfl cb19 rfl (fun w1 hb1 hs1 hB1 => ?_)
  refine Calls.mono (ref5_Efforts nm _ _ _ gs A _ hn (hS.at hb1 hB1) (hA.at hb1 hB1)) ?_
  rintro e w2 ⟨a6, c6, M, rfl, hb2, hs2, hM⟩
  refine After.moreE rfl hb1 hs1 hB1 hb2 (hs2.num (by decide) 1006 20000000000 (by decide)) (by decide) (fun i hi _ => ?_) ?_
  · repeat' refine (look_cons_ne _ _ (by omega)).trans ?_
    exact look_inn_none (.inr (by omega))
  clear hs2 hb2 hB1 hs1 hb1 w2 w1
  refine ol_r (r_move rfl) rfl ?_
  refine ol_r (r_extract rfl rfl) rfl ?_
  refine ol_r (r_extract rfl rfl) rfl ?_
  refine ol_r (r_assign rfl) rfl ?_
  refine ol_r (r_assign rfl) rfl ?_
  refine ol_nil (to_k0 (fun _ _ h => h) (hK3 _ _ _ _ _ ?_))
  clear hK3
  refine wp_seq' fun K4 hK4 => ?_
  refine wp_reg ?_
  refine ol_r (r_lda (id := 2) (n := 2) rfl rfl rfl ag24) rfl ?_
  refine ol_r (r_lda (id := 3) (n := 6) rfl rfl rfl ag29) rfl ?_
  refine ol_call rfl rfl cb20 rfl (fun w1 hb1 hs1 hB1 => ?_)
  refine Calls.mono (match_Best nm _ _ _ gs A _ hn (hS.at hb1 hB1) (hA.at hb1 hB1)) ?_
  rintro e w2 ⟨a7, n7, c7, rfl, hb2, hs2⟩
  refine After.more rfl hb1 hs1 hB1 hb2 (hs2.one 1001 1007 rfl (Ent.le_refl _)) ?_
  clear hs2 hb2 hB1 hs1 hb1 w2 w1
  refine ol_r (r_move rfl) rfl ?_
  refine ol_r (r_extract rfl rfl) rfl ?_
  refine ol_r (r_extract rfl rfl) rfl ?_
  refine ol_r (r_extract rfl rfl) rfl ?_
  refine ol_alloc 9 z49 rfl fun b9 => ?_
  refine ol_store (id := 9) rfl rfl rfl rfl sz49 rfl rfl (by first | decide | exact Nat.zero_lt_succ _ | simp) ?_
  refine ol_r (r_assign rfl) rfl ?_
  refine ol_r (r_assign rfl) rfl ?_
  refine ol_nil (to_k0 (fun _ _ h => h) (hK4 _ _ _ _ _ ?_))
  clear hK4
  refine wp_seq' fun K5 hK5 => ?_
  refine wp_reg ?_
  refine ol_r (r_lda (id := 2) (n := 2) rfl rfl rfl ag24) rfl ?_
  refine ol_r (r_lda (id := 3) (n := 6) rfl rfl rfl ag29) rfl ?_
  refine ol_call rfl rfl cb21 rfl (fun w1 hb1 hs1 hB1 => ?_)
  refine Calls.mono (ref5_Best nm _ _ _ gs A _ hn (hS.at hb1 hB1) (hA.at hb1 hB1)) ?_
  rintro e w2 ⟨a8, n8, c8, rfl, hb2, hs2⟩
  refine After.more rfl hb1 hs1 hB1 hb2 (hs2.one 1001 1008 rfl (Ent.le_refl _)) ?_
  clear hs2 hb2 hB1 hs1 hb1 w2 w1
  refine ol_r (r_move rfl) rfl ?_
  refine ol_r (r_extract rfl rfl) rfl ?_
  refine ol_r (r_extract rfl rfl) rfl ?_
  refine ol_r (r_extract rfl rfl) rfl ?_
  refine ol_alloc 12 z49 rfl fun b12 => ?_
  refine ol_store (id := 12) rfl rfl rfl rfl sz49 rfl rfl (by first | decide | exact Nat.zero_lt_succ _ | simp) ?_
  refine ol_r (r_assign rfl) rfl ?_
  refine ol_r (r_assign rfl) rfl ?_
  refine ol_nil (to_k0 (fun _ _ h => h) (hK5 _ _ _ _ _ ?_))
  clear hK5
  refine wp_seq' fun K6 hK6 => ?_
  refine wp_reg ?_
  refine ol_r (r_move rfl) rfl ?_
  refine ol_r (r_move rfl) rfl ?_
  have hLM : L.map (·.2) = M.map (·.2) := hL.trans hM.symm
  have hln : M.length = L.length := by have := congrArg List.length hLM; rw [List.length_map, List.length_map] at this; exact this.symm
  rw [hln]
  refine ol_call rfl rfl cb22 rfl (fun w1 hb1 hs1 hB1 => ?_)
  refine Calls.mono (law5_same_eff _ _ _ _ _ L M _ (Sat.rdE hs1 (id := 1005) (base := 10000000000) (U := 3) rfl (fun j x hj => by
    repeat' refine (look_cons_ne _ _ (by omega)).trans ?_
    exact look_inn_app hj)) (Sat.rdE hs1 (id := 1006) (base := 20000000000) (U := 3) (by rw [← hln]; rfl) (fun j x hj => by
    repeat' refine (look_cons_ne _ _ (by omega)).trans ?_
    exact (look_inn_skip (.inr (by omega))).trans (look_inn hj))) hLM) ?_
  rintro e w2 ⟨rfl, hb2⟩
  refine After.below rfl hb1 hs1 hB1 hb2 ?_
  clear hb2 hB1 hs1 hb1 w2 w1
  refine ol_r (r_move rfl) rfl ?_
  refine ol_split (d := 44) rfl (fun hs44 => ?_) (fun hs44 => ?_)
  ·have phs44 := hs44; try simp only [decide_eq_true_eq, decide_eq_false_iff_not, Bool.not_eq_true', Bool.not_eq_false', Bool.not_true, Bool.not_false] at phs44
   refine ol_g rfl rfl hs44 ?_
   refine ol_r (r_move rfl) rfl ?_
   refine ol_g rfl rfl hs44 ?_
   refine ol_r (r_move rfl) rfl ?_
   refine ol_g rfl rfl hs44 ?_
   refine ol_r (r_eql rfl rfl) rfl ?_
   refine ol_r (r_pickT rfl hs44 rfl) rfl ?_
   refine ol_r (r_move rfl) rfl ?_
   refine ol_split (d := 49) rfl (fun hs49 => ?_) (fun hs49 => ?_)
   ·have phs49 := hs49; try simp only [decide_eq_true_eq, decide_eq_false_iff_not, Bool.not_eq_true', Bool.not_eq_false', Bool.not_true, Bool.not_false] at phs49
    refine ol_g rfl rfl hs49 ?_
    refine ol_r (r_fa (o' := 0) rfl fl49_0 rfl) rfl ?_
    refine ol_g rfl rfl hs49 ?_
    refine ol_r (r_ld (id := 9) rfl rfl rfl sc47) rfl ?_
    refine ol_g rfl rfl hs49 ?_
    refine ol_r (r_fa (o' := 0) rfl fl49_0 rfl) rfl ?_
    refine ol_g rfl rfl hs49 ?_
    refine ol_r (r_ld (id := 12) rfl rfl rfl sc47) rfl ?_
    refine ol_g rfl rfl hs49 ?_
    refine ol_call rfl rfl cb23 rfl (fun w1 hb1 hs1 hB1 => Calls.mono (equal_ints_same _ _ _ _ _ _ _ _ (Sat.rd hs1 (id := 1007) rfl rfl) (Sat.rd hs1 (id := 1008) rfl rfl)) ?_)
    rintro e w2 ⟨rfl, hb2⟩
    refine After.below rfl hb1 hs1 hB1 hb2 ?_
    clear hb2 hB1 hs1 hb1 w2 w1
    refine ol_r (r_pickT rfl hs49 rfl) rfl ?_
    refine ol_r (r_move rfl) rfl ?_
    refine ol_split (d := 56) rfl (fun hs56 => ?_) (fun hs56 => ?_)
    ·have phs56 := hs56; try simp only [decide_eq_true_eq, decide_eq_false_iff_not, Bool.not_eq_true', Bool.not_eq_false', Bool.not_true, Bool.not_false] at phs56
     refine ol_g rfl rfl hs56 ?_
     refine ol_r (r_move rfl) rfl ?_
     refine ol_g rfl rfl hs56 ?_
     refine ol_r (r_move rfl) rfl ?_
     refine ol_g rfl rfl hs56 ?_
     refine ol_r (r_beql rfl rfl (by kernel_rfl)) rfl ?_
     refine ol_r (r_pickT rfl hs56 rfl) rfl ?_
     refine ol_r (r_move rfl) rfl ?_
     refine ol_split (d := 61) rfl (fun hs61 => ?_) (fun hs61 => ?_)
     ·have phs61 := hs61; try simp only [decide_eq_true_eq, decide_eq_false_iff_not, Bool.not_eq_true', Bool.not_eq_false', Bool.not_true, Bool.not_false] at phs61
      refine ol_g rfl rfl hs61 ?_
      refine ol_r (r_move rfl) rfl ?_
      refine ol_g rfl rfl hs61 ?_
      refine ol_r (r_move rfl) rfl ?_
      refine ol_g rfl rfl hs61 ?_
      refine ol_r (r_eql rfl rfl) rfl ?_
      refine ol_r (r_pickT rfl hs61 rfl) rfl ?_
      refine ol_r (r_move rfl) rfl ?_
      refine ol_split (d := 66) rfl (fun hs66 => ?_) (fun hs66 => ?_)
      ·have phs66 := hs66; try simp only [decide_eq_true_eq, decide_eq_false_iff_not, Bool.not_eq_true', Bool.not_eq_false', Bool.not_true, Bool.not_false] at phs66
       refine ol_g rfl rfl hs66 ?_
       refine ol_call rfl rfl cb12 rfl (fun w1 hb1 hs1 hB1 => Calls.mono (law5_told _) ?_)
       rintro e w2 ⟨rfl, hb2⟩
       refine After.below rfl hb1 hs1 hB1 hb2 ?_
       clear hb2 hB1 hs1 hb1 w2 w1
       refine ol_r (r_pickT rfl hs66 rfl) rfl ?_
       refine ol_r (r_assign rfl) rfl ?_
       refine ol_nil (to_k0 (fun _ _ h => h) (hK6 _ _ _ _ _ ?_))
       clear hK6
       refine hQ.ret (rvs1 (rv_t rfl)) (fun _ _ h => h) fun w hb hs hB hkd => ?_
       first
         | exact ⟨rfl, hb⟩
      ·have phs66 := hs66; try simp only [decide_eq_true_eq, decide_eq_false_iff_not, Bool.not_eq_true', Bool.not_eq_false', Bool.not_true, Bool.not_false] at phs66
       refine ol_s rfl rfl hs66 rfl ?_
       refine ol_r (r_pickF rfl hs66 rfl) rfl ?_
       refine ol_r (r_assign rfl) rfl ?_
       refine ol_nil (to_k0 (fun _ _ h => h) (hK6 _ _ _ _ _ ?_))
       clear hK6
       refine hQ.ret (rvs1 (rv_t rfl)) (fun _ _ h => h) fun w hb hs hB hkd => ?_
       first
         | (exfalso; simp at hs66; done)
     ·have phs61 := hs61; try simp only [decide_eq_true_eq, decide_eq_false_iff_not, Bool.not_eq_true', Bool.not_eq_false', Bool.not_true, Bool.not_false] at phs61
      refine ol_s rfl rfl hs61 rfl ?_
      refine ol_s rfl rfl hs61 rfl ?_
      refine ol_s rfl rfl hs61 rfl ?_
      refine ol_r (r_pickF rfl hs61 rfl) rfl ?_
      refine ol_r (r_move rfl) rfl ?_
      refine ol_s rfl rfl rfl rfl ?_
      refine ol_r (r_pickF rfl rfl rfl) rfl ?_
      refine ol_r (r_assign rfl) rfl ?_
      refine ol_nil (to_k0 (fun _ _ h => h) (hK6 _ _ _ _ _ ?_))
      clear hK6
      refine hQ.ret (rvs1 (rv_t rfl)) (fun _ _ h => h) fun w hb hs hB hkd => ?_
      first
        | (exfalso; simp at hs61; done)
    ·have phs56 := hs56; try simp only [decide_eq_true_eq, decide_eq_false_iff_not, Bool.not_eq_true', Bool.not_eq_false', Bool.not_true, Bool.not_false] at phs56
     refine ol_s rfl rfl hs56 rfl ?_
     refine ol_s rfl rfl hs56 rfl ?_
     refine ol_s rfl rfl hs56 rfl ?_
     refine ol_r (r_pickF rfl hs56 rfl) rfl ?_
     refine ol_r (r_move rfl) rfl ?_
     refine ol_s rfl rfl rfl rfl ?_
     refine ol_s rfl rfl rfl rfl ?_
     refine ol_s rfl rfl rfl rfl ?_
     refine ol_r (r_pickF rfl rfl rfl) rfl ?_
     refine ol_r (r_move rfl) rfl ?_
     refine ol_s rfl rfl rfl rfl ?_
     refine ol_r (r_pickF rfl rfl rfl) rfl ?_
     refine ol_r (r_assign rfl) rfl ?_
     refine ol_nil (to_k0 (fun _ _ h => h) (hK6 _ _ _ _ _ ?_))
     clear hK6
     refine hQ.ret (rvs1 (rv_t rfl)) (fun _ _ h => h) fun w hb hs hB hkd => ?_
     first
       | (exfalso; simp at hs56; done)
   ·have phs49 := hs49; try simp only [decide_eq_true_eq, decide_eq_false_iff_not, Bool.not_eq_true', Bool.not_eq_false', Bool.not_true, Bool.not_false] at phs49
    refine ol_s rfl rfl hs49 rfl ?_
    refine ol_s rfl rfl hs49 rfl ?_
    refine ol_s rfl rfl hs49 rfl ?_
    refine ol_s rfl rfl hs49 rfl ?_
    refine ol_s rfl rfl hs49 rfl ?_
    refine ol_r (r_pickF rfl hs49 rfl) rfl ?_
    refine ol_r (r_move rfl) rfl ?_
    refine ol_s rfl rfl rfl rfl ?_
    refine ol_s rfl rfl rfl rfl ?_
    refine ol_s rfl rfl rfl rfl ?_
    refine ol_r (r_pickF rfl rfl rfl) rfl ?_
    refine ol_r (r_move rfl) rfl ?_
    refine ol_s rfl rfl rfl rfl ?_
    refine ol_s rfl rfl rfl rfl ?_
    refine ol_s rfl rfl rfl rfl ?_
    refine ol_r (r_pickF rfl rfl rfl) rfl ?_
    refine ol_r (r_move rfl) rfl ?_
    refine ol_s rfl rfl rfl rfl ?_
    refine ol_r (r_pickF rfl rfl rfl) rfl ?_
    refine ol_r (r_assign rfl) rfl ?_
    refine ol_nil (to_k0 (fun _ _ h => h) (hK6 _ _ _ _ _ ?_))
    clear hK6
    refine hQ.ret (rvs1 (rv_t rfl)) (fun _ _ h => h) fun w hb hs hB hkd => ?_
    first
      | (exfalso; simp at hs49; done)
  ·have phs44 := hs44; try simp only [decide_eq_true_eq, decide_eq_false_iff_not, Bool.not_eq_true', Bool.not_eq_false', Bool.not_true, Bool.not_false] at phs44
   refine ol_s rfl rfl hs44 rfl ?_
   refine ol_s rfl rfl hs44 rfl ?_
   refine ol_s rfl rfl hs44 rfl ?_
   refine ol_r (r_pickF rfl hs44 rfl) rfl ?_
   refine ol_r (r_move rfl) rfl ?_
   refine ol_s rfl rfl rfl rfl ?_
   refine ol_s rfl rfl rfl rfl ?_
   refine ol_s rfl rfl rfl rfl ?_
   refine ol_s rfl rfl rfl rfl ?_
   refine ol_s rfl rfl rfl rfl ?_
   refine ol_r (r_pickF rfl rfl rfl) rfl ?_
   refine ol_r (r_move rfl) rfl ?_
   refine ol_s rfl rfl rfl rfl ?_
   refine ol_s rfl rfl rfl rfl ?_
   refine ol_s rfl rfl rfl rfl ?_
   refine ol_r (r_pickF rfl rfl rfl) rfl ?_
   refine ol_r (r_move rfl) rfl ?_
   refine ol_s rfl rfl rfl rfl ?_
   refine ol_s rfl rfl rfl rfl ?_
   refine ol_s rfl rfl rfl rfl ?_
   refine ol_r (r_pickF rfl rfl rfl) rfl ?_
   refine ol_r (r_move rfl) rfl ?_
   refine ol_s rfl rfl rfl rfl ?_
   refine ol_r (r_pickF rfl rfl rfl) rfl ?_
   refine ol_r (r_assign rfl) rfl ?_
   refine ol_nil (to_k0 (fun _ _ h => h) (hK6 _ _ _ _ _ ?_))
   clear hK6
   refine hQ.ret (rvs1 (rv_t rfl)) (fun _ _ h => h) fun w hb hs hB hkd => ?_
   first
     | (exfalso; simp at hs44; done)
end Go.Proofs.Ytbbhcffkleplnaa
