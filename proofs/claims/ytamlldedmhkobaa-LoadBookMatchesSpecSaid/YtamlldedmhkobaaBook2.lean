/-
  LoadBookMatchesSpec: for all first days and calls, a book returns what is specified.
-/
import Derived.Test.YtamlldedmhkobaaBookR
import Derived.Test.YtamlldedmhkobaaLoadMore
namespace Go.Proofs.Ytamlldedmhkobaa
open Go Go.RowKit Hx
set_option linter.unusedVariables false
set_option linter.unusedSimpArgs false
set_option maxRecDepth 8000
structure CallR where
  kind : Int
  day : Int
  n : Int
def encCall : Enc CallR := { size := 3, cells := fun x => [.int .i64 x.kind, .int .i64 x.day, .int .i64 x.n], val := fun x => .agg #[.int .i64 x.kind, .int .i64 x.day, .int .i64 x.n], len := fun _ => rfl, ones := fun _ u h => (by simp at h; rcases h with h | h | h <;> subst h <;> rfl), pos := by decide, vc := fun _ => rfl }
def mk_encCall (a b c : Int) : CallR := ⟨a, b, c⟩
theorem ty58 : Ty Try.prog 58 encCall := .inr ⟨ag58, fun _ => rfl⟩
theorem eqs_same2 (a b : Int) : ¬eqs [Value.int .i64 a, Value.int .i64 b] [Value.int .i64 a, Value.int .i64 b] = false := by simp [eqs, eqV]
theorem eqs_same5 (a b c d e : Int) : ¬eqs [Value.int .i64 a, Value.int .i64 b, Value.int .i64 c, Value.int .i64 d, Value.int .i64 e] [Value.int .i64 a, Value.int .i64 b, Value.int .i64 c, Value.int .i64 d, Value.int .i64 e] = false := by simp [eqs, eqV]
theorem equal_state_same (a b : Option Addr) (n c1 c2 : Nat) (xs : List StR) (w : World) (hx : Rd encState w.heap.size w a n c1 xs) (hy : Rd encState w.heap.size w b n c2 xs) :
    Calls Try.prog 46 #[.slice a n c1, .slice b n c2] w fun e w' => e = .returned (.bool true) ∧ Below w.heap.size w w' := by
  have hn := hx.len
  have hf := hx.fit
  refine enterQ (N := 26) (C := fun _ => True) (H := []) (B := w.heap.size) (args := [_, _]) Try.func46 rfl rfl rfl (Nat.le_refl _) (Sat.nil _ _) fun Q hQ => ?_
  refine wp_seq' fun K1 hK1 => ?_
  refine wp_reg ?_
  refine ol_r (r_assign rfl) rfl ?_
  refine ol_nil (to_k0 (fun _ _ h => h) (hK1 _ _ _ _ _ ?_))
  clear hK1
  refine wp_seq' fun K2 hK2 => ?_
  refine wp_seq' fun K3 hK3 => ?_
  refine wp_reg ?_
  refine ol_r (r_move rfl) rfl ?_
  refine ol_r (r_len rfl sl64) rfl ?_
  refine ol_r (r_move rfl) rfl ?_
  refine ol_r (r_len rfl sl64) rfl ?_
  refine ol_r (r_neq rfl rfl) rfl ?_
  refine ol_nil (to_k0 (fun _ _ h => h) (hK3 _ _ _ _ _ ?_))
  clear hK3
  first | refine wp_condD rfl (fun hc10 => ?_) (fun hc10 => ?_) | refine wp_condN rfl (fun hc10 => ?_) (fun hc10 => ?_) | refine wp_condNB rfl (fun hc10 => ?_) (fun hc10 => ?_) | refine wp_cond' rfl (fun hc10 => ?_) (fun hc10 => ?_)
  ·refine wp_seq' fun K4 hK4 => ?_
   refine wp_reg ?_
   refine ol_r (r_assign rfl) rfl ?_
   refine ol_nil (to_k0 (fun _ _ h => h) (hK4 _ _ _ _ _ ?_))
   clear hK4
   refine hQ.ret (rvs1 (rv_t rfl)) (fun _ _ h => h) fun w hb hs hB hkd => ?_
   first
     | exact ⟨rfl, hb⟩
     | (exfalso; simp_all; done)
     | (exfalso; simp_all [eqs, eqV, encState]; done)
  ·refine wp_skip' (to_k0 (fun _ _ h => h) (hK2 _ _ _ _ _ ?_))
   clear hK2
   refine wp_seq' fun K5 hK5 => ?_
   refine wp_seq' fun K6 hK6 => ?_
   refine wp_reg ?_
   refine ol_r (r_move rfl) rfl ?_
   refine ol_r (r_len rfl sl64) rfl ?_
   refine ol_r (r_move rfl) rfl ?_
   refine ol_nil (to_k0 (fun _ _ h => h) (hK6 _ _ _ _ _ ?_))
   clear hK6
   refine wp_block' ?_
   apply wp_loopM (σ := Nat) (fun s => s ≤ n) (fun s => [(13, .int .i64 s)]) [(0, _), (1, _), (12, _)] (fun s => []) [] (fun s => n - s) (0)
   ·try dsimp only
    simp
   ·exact (sub_cons rfl sub_nil)
   ·exact (sub_cons rfl (sub_cons rfl (sub_cons rfl sub_nil)))
   ·exact subH_nil
   ·exact subH_nil
   ·intro k hk
    intro K7 hK7
    refine wp_seq' fun K8 hK8 => ?_
    refine wp_reg ?_
    refine ol_r (r_lss rfl rfl) rfl ?_
    refine ol_nil (to_k0 (fun _ _ h => h) (hK8 _ _ _ _ _ ?_))
    clear hK8
    refine wp_seq' fun K9 hK9 => ?_
    first | refine wp_condD rfl (fun hc14 => ?_) (fun hc14 => ?_) | refine wp_condN rfl (fun hc14 => ?_) (fun hc14 => ?_) | refine wp_condNB rfl (fun hc14 => ?_) (fun hc14 => ?_) | refine wp_cond' rfl (fun hc14 => ?_) (fun hc14 => ?_)
    ·refine wp_skip' (to_k0 (fun _ _ h => h) (hK9 _ _ _ _ _ ?_))
     clear hK9
     refine wp_seq' fun K10 hK10 => ?_
     refine wp_block' ?_
     refine wp_seq' fun K11 hK11 => ?_
     refine wp_reg ?_
     refine ol_r (r_move rfl) rfl ?_
     refine ol_r (r_assign rfl) rfl ?_
     refine ol_nil (to_k0 (fun _ _ h => h) (hK11 _ _ _ _ _ ?_))
     clear hK11
     refine wp_seq' fun K12 hK12 => ?_
     refine wp_regq (by kernel_rfl) (by kernel_rfl) ?_
     refine ql_r (r_move rfl) rfl ?_
     refine ql_r (r_move rfl) rfl ?_
     refine ql_ixr hx rfl rfl sl64 (by omega) rfl fun x18 hx18 => ?_
     try simp only [Int.toNat_natCast] at hx18
     refine ql_r (r_ldw rfl (fun w1 hb1 hs1 hB1 => Rd.loads hx ty61 hx18 hb1)) rfl ?_
     refine ql_r (r_move rfl) rfl ?_
     refine ql_r (r_move rfl) rfl ?_
     refine ql_ixr hy rfl rfl sl64 (by omega) rfl fun x22 hx22 => ?_
     try simp only [Int.toNat_natCast] at hx22
     have h22 : x22 = x18 := by rw [hx18] at hx22; cases hx22; rfl
     subst h22
     refine ql_r (r_ldw rfl (fun w1 hb1 hs1 hB1 => Rd.loads hy ty61 hx22 hb1)) rfl ?_
     refine ql_r (r_nes rfl rfl (by kernel_rfl) (fun w => run_eqs (by kernel_rfl) (by kernel_rfl) w)) rfl ?_
     refine ql_nil (to_k0 (fun _ _ h => h) (hK12 _ _ _ _ _ ?_))
     clear hK12
     first | refine wp_condD rfl (fun hc24 => ?_) (fun hc24 => ?_) | refine wp_condN rfl (fun hc24 => ?_) (fun hc24 => ?_) | refine wp_condNB rfl (fun hc24 => ?_) (fun hc24 => ?_) | refine wp_cond' rfl (fun hc24 => ?_) (fun hc24 => ?_)
     ·refine wp_seq' fun K13 hK13 => ?_
      refine wp_reg ?_
      refine ol_r (r_assign rfl) rfl ?_
      refine ol_nil (to_k0 (fun _ _ h => h) (hK13 _ _ _ _ _ ?_))
      clear hK13
      refine hQ.ret (rvs1 (rv_t rfl)) (fun _ _ h => h) fun w hb hs hB hkd => ?_
      first
        | exact ⟨rfl, hb⟩
        | (exfalso; simp_all; done)
        | (exfalso; simp_all [eqs, eqV, encState]; done)
     ·refine wp_skip' (to_k0 (fun _ _ h => h) (hK10 _ _ _ _ _ ?_))
      clear hK10
      refine wp_reg ?_
      refine ol_r (r_add rfl rfl (by omega)) rfl ?_
      refine ol_r (r_move rfl) rfl ?_
      refine ol_nil (to_k0 (fun _ _ h => h) (hK7 (k + 1) _ _ ?_ ?_ (sub_cons rfl sub_nil) (sub_cons rfl (sub_cons rfl (sub_cons rfl sub_nil))) (by exact subH_nil) subH_nil))
      ·try dsimp only
       omega
      ·try dsimp only
       omega
    ·refine wp_exit' (to_k0 (fun _ _ h => h) (hK5 _ _ _ _ _ ?_))
     clear hK5
     refine wp_seq' fun K14 hK14 => ?_
     refine wp_reg ?_
     refine ol_r (r_assign rfl) rfl ?_
     refine ol_nil (to_k0 (fun _ _ h => h) (hK14 _ _ _ _ _ ?_))
     clear hK14
     refine hQ.ret (rvs1 (rv_t rfl)) (fun _ _ h => h) fun w hb hs hB hkd => ?_
     first
       | exact ⟨rfl, hb⟩
       | (exfalso; simp_all; done)
       | (exfalso; simp_all [eqs, eqV, encState]; done)
theorem law_book_no (first fit fat : Int) (ca : Option Addr) (cn cc : Nat) (w : World) (hn : newB first fit fat = false) :
    Calls Try.prog 8 #[.int .i64 first, .int .i64 fit, .int .i64 fat, .slice ca cn cc] w fun e w' => e = .returned (.bool true) ∧ Below w.heap.size w w' := by
  refine enterQ (N := 173) (C := fun _ => True) (H := []) (B := w.heap.size) (args := [_, _, _, _]) Try.func8 rfl rfl rfl (Nat.le_refl _) (Sat.nil _ _) fun Q hQ => ?_
  refine wp_seq' fun K1 hK1 => ?_
  refine wp_reg ?_
  refine ol_r (r_assign rfl) rfl ?_
  refine ol_nil (to_k0 (fun _ _ h => h) (hK1 _ _ _ _ _ ?_))
  clear hK1
  refine wp_seq' fun K2 hK2 => ?_
  refine wp_reg ?_
  refine ol_r (r_move rfl) rfl ?_
  refine ol_r (r_move rfl) rfl ?_
  refine ol_r (r_move rfl) rfl ?_
  refine ol_call rfl rfl cb36 rfl (fun w1 hb1 hs1 hB1 => Calls.mono (load_NewNo first fit fat _ hn) ?_)
  rintro e w2 ⟨rfl, hb2⟩
  refine After.below rfl hb1 hs1 hB1 hb2 ?_
  clear hb2 hB1 hs1 hb1 w2 w1
  refine ol_r (r_move rfl) rfl ?_
  refine ol_r (r_extract rfl rfl) rfl ?_
  refine ol_r (r_extract rfl rfl) rfl ?_
  refine ol_r (r_assign rfl) rfl ?_
  refine ol_r (r_assign rfl) rfl ?_
  refine ol_nil (to_k0 (fun _ _ h => h) (hK2 _ _ _ _ _ ?_))
  clear hK2
  refine wp_seq' fun K3 hK3 => ?_
  refine wp_reg ?_
  refine ol_r (r_move rfl) rfl ?_
  refine ol_r (r_move rfl) rfl ?_
  refine ol_r (r_move rfl) rfl ?_
  refine ol_call rfl rfl cb37 rfl (fun w1 hb1 hs1 hB1 => Calls.mono (ref_NewNo first fit fat _ hn) ?_)
  rintro e w2 ⟨rfl, hb2⟩
  refine After.below rfl hb1 hs1 hB1 hb2 ?_
  clear hb2 hB1 hs1 hb1 w2 w1
  refine ol_r (r_move rfl) rfl ?_
  refine ol_r (r_extract rfl rfl) rfl ?_
  refine ol_r (r_extract rfl rfl) rfl ?_
  refine ol_r (r_assign rfl) rfl ?_
  refine ol_r (r_assign rfl) rfl ?_
  refine ol_nil (to_k0 (fun _ _ h => h) (hK3 _ _ _ _ _ ?_))
  clear hK3
  refine wp_seq' fun K4 hK4 => ?_
  refine wp_seq' fun K5 hK5 => ?_
  refine wp_reg ?_
  refine ol_r (r_move rfl) rfl ?_
  refine ol_r (r_move rfl) rfl ?_
  refine ol_r (r_neq rfl rfl) rfl ?_
  refine ol_nil (to_k0 (fun _ _ h => h) (hK5 _ _ _ _ _ ?_))
  clear hK5
  first | refine wp_condD rfl (fun hc46 => ?_) (fun hc46 => ?_) | refine wp_condN rfl (fun hc46 => ?_) (fun hc46 => ?_) | refine wp_condNB rfl (fun hc46 => ?_) (fun hc46 => ?_) | refine wp_cond' rfl (fun hc46 => ?_) (fun hc46 => ?_)
  ·exfalso
   exact hc46 rfl
  ·refine wp_skip' (to_k0 (fun _ _ h => h) (hK4 _ _ _ _ _ ?_))
   clear hK4
   refine wp_seq' fun K6 hK6 => ?_
   refine wp_seq' fun K7 hK7 => ?_
   refine wp_reg ?_
   refine ol_r (r_move rfl) rfl ?_
   refine ol_r (r_neq rfl rfl) rfl ?_
   refine ol_nil (to_k0 (fun _ _ h => h) (hK7 _ _ _ _ _ ?_))
   clear hK7
   first | refine wp_condD rfl (fun hc48 => ?_) (fun hc48 => ?_) | refine wp_condN rfl (fun hc48 => ?_) (fun hc48 => ?_) | refine wp_condNB rfl (fun hc48 => ?_) (fun hc48 => ?_) | refine wp_cond' rfl (fun hc48 => ?_) (fun hc48 => ?_)
   ·refine wp_seq' fun K8 hK8 => ?_
    refine wp_reg ?_
    refine ol_call rfl rfl cb14 rfl (fun w1 hb1 hs1 hB1 => Calls.mono (load_told _) ?_)
    rintro e w2 ⟨rfl, hb2⟩
    refine After.below rfl hb1 hs1 hB1 hb2 ?_
    clear hb2 hB1 hs1 hb1 w2 w1
    refine ol_r (r_assign rfl) rfl ?_
    refine ol_nil (to_k0 (fun _ _ h => h) (hK8 _ _ _ _ _ ?_))
    clear hK8
    refine hQ.ret (rvs1 (rv_t rfl)) (fun _ _ h => h) fun w hb hs hB hkd => ?_
    exact ⟨rfl, hb⟩
   ·exfalso
    exact hc48 (by decide)
theorem law_book_ok (first fit fat : Int) (ca : Option Addr) (cn cc : Nat) (cs : List CallR) (w : World) (hl : Rd encCall w.heap.size w ca cn cc cs) (hn : newB first fit fat = true) :
    Calls Try.prog 8 #[.int .i64 first, .int .i64 fit, .int .i64 fat, .slice ca cn cc] w fun e w' => e = .returned (.bool true) ∧ Below w.heap.size w w' := by
  have hfit := hl.fit
  have hbk : BkOk (mG (0 : Int) ([] : List (Int × Int))) first fit fat := by
    have h := hn
    unfold newB at h
    simp only [Bool.and_eq_true] at h
    exact ⟨inB_iff.1 h.1.1, inB_iff.1 h.1.2, inB_iff.1 h.2, fun d => ⟨Int.le_refl _, by show (0 : Int) ≤ 10000; decide⟩⟩
  refine enterQ (N := 173) (C := fun _ => True) (H := []) (B := w.heap.size) (args := [_, _, _, _]) Try.func8 rfl rfl rfl (Nat.le_refl _) (Sat.nil _ _) fun Q hQ => ?_
  refine wp_seq' fun K1 hK1 => ?_
  refine wp_reg ?_
  refine ol_r (r_assign rfl) rfl ?_
  refine ol_nil (to_k0 (fun _ _ h => h) (hK1 _ _ _ _ _ ?_))
  clear hK1
  refine wp_seq' fun K2 hK2 => ?_
  refine wp_reg ?_
  refine ol_r (r_move rfl) rfl ?_
  refine ol_r (r_move rfl) rfl ?_
  refine ol_r (r_move rfl) rfl ?_
  refine ol_call rfl rfl cb36 rfl (fun w1 hb1 hs1 hB1 => ?_)
  refine Calls.mono (load_NewOk first fit fat _ hn) ?_
  rintro e w2 ⟨b1, m1, rfl, hb2, hs2⟩
  refine After.more rfl hb1 hs1 hB1 hb2 (hs2.kle [(1001, 1011), (1002, 1012)] (kle_cons rfl (Ent.le_refl _) (kle_cons rfl (Ent.le_refl _) kle_nil)) (by decide)) ?_
  clear hs2 hb2 hB1 hs1 hb1 w2 w1
  refine ol_r (r_move rfl) rfl ?_
  refine ol_r (r_extract rfl rfl) rfl ?_
  refine ol_r (r_extract rfl rfl) rfl ?_
  refine ol_r (r_assign rfl) rfl ?_
  refine ol_r (r_assign rfl) rfl ?_
  refine ol_nil (to_k0 (fun _ _ h => h) (hK2 _ _ _ _ _ ?_))
  clear hK2
  refine wp_seq' fun K3 hK3 => ?_
  refine wp_reg ?_
  refine ol_r (r_move rfl) rfl ?_
  refine ol_r (r_move rfl) rfl ?_
  refine ol_r (r_move rfl) rfl ?_
  refine ol_call rfl rfl cb37 rfl (fun w1 hb1 hs1 hB1 => ?_)
  refine Calls.mono (ref_NewOk first fit fat _ hn) ?_
  rintro e w2 ⟨b2, m2, rfl, hb2, hs2⟩
  refine After.more rfl hb1 hs1 hB1 hb2 (hs2.kle [(1001, 1021), (1002, 1022)] (kle_cons rfl (Ent.le_refl _) (kle_cons rfl (Ent.le_refl _) kle_nil)) (by decide)) ?_
  clear hs2 hb2 hB1 hs1 hb1 w2 w1
  refine ol_r (r_move rfl) rfl ?_
  refine ol_r (r_extract rfl rfl) rfl ?_
  refine ol_r (r_extract rfl rfl) rfl ?_
  refine ol_r (r_assign rfl) rfl ?_
  refine ol_r (r_assign rfl) rfl ?_
  refine ol_nil (to_k0 (fun _ _ h => h) (hK3 _ _ _ _ _ ?_))
  clear hK3
  refine wp_seq' fun K4 hK4 => ?_
  refine wp_seq' fun K5 hK5 => ?_
  refine wp_reg ?_
  refine ol_r (r_move rfl) rfl ?_
  refine ol_r (r_move rfl) rfl ?_
  refine ol_r (r_neq rfl rfl) rfl ?_
  refine ol_nil (to_k0 (fun _ _ h => h) (hK5 _ _ _ _ _ ?_))
  clear hK5
  first | refine wp_condD rfl (fun hc46 => ?_) (fun hc46 => ?_) | refine wp_condN rfl (fun hc46 => ?_) (fun hc46 => ?_) | refine wp_condNB rfl (fun hc46 => ?_) (fun hc46 => ?_) | refine wp_cond' rfl (fun hc46 => ?_) (fun hc46 => ?_)
  ·exfalso
   exact hc46 rfl
  ·refine wp_skip' (to_k0 (fun _ _ h => h) (hK4 _ _ _ _ _ ?_))
   clear hK4
   refine wp_seq' fun K6 hK6 => ?_
   refine wp_seq' fun K7 hK7 => ?_
   refine wp_reg ?_
   refine ol_r (r_move rfl) rfl ?_
   refine ol_r (r_neq rfl rfl) rfl ?_
   refine ol_nil (to_k0 (fun _ _ h => h) (hK7 _ _ _ _ _ ?_))
   clear hK7
   first | refine wp_condD rfl (fun hc48 => ?_) (fun hc48 => ?_) | refine wp_condN rfl (fun hc48 => ?_) (fun hc48 => ?_) | refine wp_condNB rfl (fun hc48 => ?_) (fun hc48 => ?_) | refine wp_cond' rfl (fun hc48 => ?_) (fun hc48 => ?_)
   ·exfalso
    exact hc48 rfl
   ·refine wp_skip' (to_k0 (fun _ _ h => h) (hK6 _ _ _ _ _ ?_))
    clear hK6
    refine wp_seq' fun K8 hK8 => ?_
    refine wp_seq' fun K9 hK9 => ?_
    refine wp_reg ?_
    refine ol_r (r_move rfl) rfl ?_
    refine ol_r (r_len rfl sl50) rfl ?_
    refine ol_r (r_move rfl) rfl ?_
    refine ol_nil (to_k0 (fun _ _ h => h) (hK9 _ _ _ _ _ ?_))
    clear hK9
    refine wp_block' ?_
    apply wp_loopM (σ := Nat × List (Int × Int)) (fun s => s.1 ≤ cn ∧ BkOk (mG (0 : Int) s.2) first fit fat) (fun s => [(52, .int .i64 s.1)]) [(9, _), (11, _), (50, _), (51, _)] (fun s => [(1012, .mp m1 (mEnc (Value.int .i64) (Value.int .i64) s.2)), (1022, .mp m2 (mEnc (Value.int .i64) (Value.int .i64) s.2))]) [(1011, _), (1021, _)] (fun s => cn - s.1) ((0, []))
    ·try dsimp only
     exact ⟨Nat.zero_le _, hbk⟩
    ·exact (sub_cons rfl sub_nil)
    ·exact (sub_cons rfl (sub_cons rfl (sub_cons rfl (sub_cons rfl sub_nil))))
    ·exact (subH_same rfl (subH_same rfl subH_nil))
    ·exact (subH_same rfl (subH_same rfl subH_nil))
    ·rintro ⟨i, D⟩ ⟨hi, hok⟩
     dsimp only at hi hok ⊢
     intro K10 hK10
     refine wp_seq' fun K11 hK11 => ?_
     refine wp_reg ?_
     refine ol_r (r_lss rfl rfl) rfl ?_
     refine ol_nil (to_k0 (fun _ _ h => h) (hK11 _ _ _ _ _ ?_))
     clear hK11
     refine wp_seq' fun K12 hK12 => ?_
     first | refine wp_condD rfl (fun hc53 => ?_) (fun hc53 => ?_) | refine wp_condN rfl (fun hc53 => ?_) (fun hc53 => ?_) | refine wp_condNB rfl (fun hc53 => ?_) (fun hc53 => ?_) | refine wp_cond' rfl (fun hc53 => ?_) (fun hc53 => ?_)
     ·refine wp_skip' (to_k0 (fun _ _ h => h) (hK12 _ _ _ _ _ ?_))
      clear hK12
      refine wp_seq' fun K13 hK13 => ?_
      refine wp_block' ?_
      refine wp_seq' fun K14 hK14 => ?_
      refine wp_reg ?_
      refine ol_ixr hl rfl rfl sl50 (by omega) rfl fun x54 hx54 => ?_
      try simp only [Int.toNat_natCast] at hx54
      refine ol_r (r_ldw rfl (fun w1 hb1 hs1 hB1 => Rd.loads hl ty58 hx54 hb1)) rfl ?_
      refine ol_alloc 14 z58 rfl fun b14 => ?_
      refine ol_store (id := 14) rfl rfl rfl rfl sz58 rfl rfl (by first | decide | exact Nat.zero_lt_succ _ | simp) ?_
      refine ol_nil (to_k0 (fun _ _ h => h) (hK14 _ _ _ _ _ ?_))
      clear hK14
      refine wp_seq' fun K15 hK15 => ?_
      refine wp_reg ?_
      refine ol_r (r_assign rfl) rfl ?_
      refine ol_nil (to_k0 (fun _ _ h => h) (hK15 _ _ _ _ _ ?_))
      clear hK15
      refine wp_seq' fun K16 hK16 => ?_
      refine wp_seq' fun K17 hK17 => ?_
      refine wp_reg ?_
      refine ol_r (r_fa (o' := 0) rfl fl58_0 rfl) rfl ?_
      refine ol_r (r_ld (id := 14) rfl rfl rfl sc3) rfl ?_
      refine ol_nil (to_k0 (fun _ _ h => h) (hK17 _ _ _ _ _ ?_))
      clear hK17
      refine wp_block' ?_
      refine wp_seq' fun K18 hK18 => ?_
      refine wp_reg ?_
      refine ol_r (r_eql rfl rfl) rfl ?_
      refine ol_r (r_assign rfl) rfl ?_
      refine ol_nil (to_k0 (fun _ _ h => h) (hK18 _ _ _ _ _ ?_))
      clear hK18
      first | refine wp_condD rfl (fun hc87 => ?_) (fun hc87 => ?_) | refine wp_condN rfl (fun hc87 => ?_) (fun hc87 => ?_) | refine wp_condNB rfl (fun hc87 => ?_) (fun hc87 => ?_) | refine wp_cond' rfl (fun hc87 => ?_) (fun hc87 => ?_)
      ·refine wp_rega [(999, [(14, _), (1011, _), (1021, _)]), (5, [(1012, _)]), (11, [(1022, _)])] (by kernel_rfl) ⟨.inr (subH_same rfl (subH_same rfl (subH_same rfl subH_nil))), ⟨.inr (subH_same rfl subH_nil), ⟨.inr (subH_same rfl subH_nil), trivial⟩⟩⟩ ?_
       refine aq_r 0 999 rfl (by kernel_rfl) (by kernel_rfl) (by kernel_rfl) (.head _) (by kernel_rfl) (by kernel_rfl) rfl (r_move rfl) ?_
       refine aq_r 1 999 rfl (by kernel_rfl) (by kernel_rfl) (by kernel_rfl) (.head _) (by kernel_rfl) (by kernel_rfl) rfl (r_fa (o' := 1) rfl fl58_1 rfl) ?_
       refine aq_r 2 999 rfl (by kernel_rfl) (by kernel_rfl) (by kernel_rfl) (.head _) (by kernel_rfl) (by kernel_rfl) rfl (r_ld (id := 14) rfl rfl rfl sc3) ?_
       refine aq_r 3 999 rfl (by kernel_rfl) (by kernel_rfl) (by kernel_rfl) (.head _) (by kernel_rfl) (by kernel_rfl) rfl (r_fa (o' := 2) rfl fl58_2 rfl) ?_
       refine aq_r 4 999 rfl (by kernel_rfl) (by kernel_rfl) (by kernel_rfl) (.head _) (by kernel_rfl) (by kernel_rfl) rfl (r_ld (id := 14) rfl rfl rfl sc3) ?_
       refine aq_r 6 999 rfl (by kernel_rfl) (by kernel_rfl) (by kernel_rfl) (.head _) (by kernel_rfl) (by kernel_rfl) rfl (r_move rfl) ?_
       refine aq_r 7 999 rfl (by kernel_rfl) (by kernel_rfl) (by kernel_rfl) (.head _) (by kernel_rfl) (by kernel_rfl) rfl (r_fa (o' := 1) rfl fl58_1 rfl) ?_
       refine aq_r 8 999 rfl (by kernel_rfl) (by kernel_rfl) (by kernel_rfl) (.head _) (by kernel_rfl) (by kernel_rfl) rfl (r_ld (id := 14) rfl rfl rfl sc3) ?_
       refine aq_r 9 999 rfl (by kernel_rfl) (by kernel_rfl) (by kernel_rfl) (.head _) (by kernel_rfl) (by kernel_rfl) rfl (r_fa (o' := 2) rfl fl58_2 rfl) ?_
       refine aq_r 10 999 rfl (by kernel_rfl) (by kernel_rfl) (by kernel_rfl) (.head _) (by kernel_rfl) (by kernel_rfl) rfl (r_ld (id := 14) rfl rfl rfl sc3) ?_
       refine aq_one (i := 5) (by kernel_rfl) rfl fun K19 hK19 => ?_
       refine ol_call rfl rfl cb38 rfl (fun w1 hb1 hs1 hB1 => ?_)
       refine Calls.mono (load_Add _ b1 m1 first fit fat x54.day x54.n D _ _ _ _ hB1 hok (hs1.kle [(1011, 810), (1012, 811), (14, 901), (1021, 902), (1022, 903)] (kle_cons rfl (Ent.le_refl _) (kle_cons rfl (Ent.le_refl _) (kle_cons rfl (Ent.le_refl _) (kle_cons rfl (Ent.le_refl _) (kle_cons rfl (Ent.le_refl _) kle_nil))))) (by decide))) ?_
       rintro e w2 ⟨rfl, hb2, hs2, hB2, hk2⟩
       refine After.sat rfl hb1 hb2 (hs2.kle [(810, 1011), (811, 1012), (901, 14), (902, 1021), (903, 1022)] (kle_cons rfl (Ent.le_refl _) (kle_cons rfl (Ent.le_refl _) (kle_cons rfl (Ent.le_refl _) (kle_cons rfl (Ent.le_refl _) (kle_cons rfl (Ent.le_refl _) kle_nil))))) (by decide)) hB2 (hk2.imp fun _ h => h) ?_
       clear hk2 hs2 hb2 hB2 hB1 hs1 hb1 w2 w1
       refine ol_nil (to_k0 (fun _ _ h => h) (hK19 _ _ ⟨.inr (by repeat' first | exact subH_nil | refine subH_same rfl ?_ | (refine subH_blk rfl (by repeat' first | exact sub_nil | refine sub_cons rfl ?_) ?_)), ⟨.inl (by kernel_rfl), ⟨.inr (by repeat' first | exact subH_nil | refine subH_same rfl ?_ | (refine subH_blk rfl (by repeat' first | exact sub_nil | refine sub_cons rfl ?_) ?_)), trivial⟩⟩⟩ ?_))
       clear hK19
       refine aq_one (i := 11) (by kernel_rfl) rfl fun K20 hK20 => ?_
       refine ol_call rfl rfl cb39 rfl (fun w1 hb1 hs1 hB1 => ?_)
       refine Calls.mono (ref_Add _ b2 m2 first fit fat x54.day x54.n D _ _ _ _ hB1 hok (hs1.kle [(1021, 810), (1022, 811), (14, 901), (1011, 902), (1012, 903)] (kle_cons rfl (Ent.le_refl _) (kle_cons rfl (Ent.le_refl _) (kle_cons rfl (Ent.le_refl _) (kle_cons rfl (Ent.le_refl _) (kle_cons rfl (Ent.le_refl _) kle_nil))))) (by decide))) ?_
       rintro e w2 ⟨rfl, hb2, hs2, hB2, hk2⟩
       refine After.sat rfl hb1 hb2 (hs2.kle [(810, 1021), (811, 1022), (901, 14), (902, 1011), (903, 1012)] (kle_cons rfl (Ent.le_refl _) (kle_cons rfl (Ent.le_refl _) (kle_cons rfl (Ent.le_refl _) (kle_cons rfl (Ent.le_refl _) (kle_cons rfl (Ent.le_refl _) kle_nil))))) (by decide)) hB2 (hk2.imp fun _ h => h) ?_
       clear hk2 hs2 hb2 hB2 hB1 hs1 hb1 w2 w1
       refine ol_nil (to_k0 (fun _ _ h => h) (hK20 _ _ ⟨.inr (by repeat' first | exact subH_nil | refine subH_same rfl ?_ | (refine subH_blk rfl (by repeat' first | exact sub_nil | refine sub_cons rfl ?_) ?_)), ⟨.inl (by kernel_rfl), ⟨.inl (by kernel_rfl), trivial⟩⟩⟩ ?_))
       clear hK20
       refine aq_r 12 999 rfl (by kernel_rfl) (by kernel_rfl) (by kernel_rfl) (.head _) (by kernel_rfl) (by kernel_rfl) rfl (r_eql rfl rfl) ?_
       refine aq_r 13 999 rfl (by kernel_rfl) (by kernel_rfl) (by kernel_rfl) (.head _) (by kernel_rfl) (by kernel_rfl) rfl (r_assign rfl) ?_
       refine aq_done (by kernel_rfl) ?_
       refine (to_k0 (fun _ _ h => h) (hK16 _ _ _ _ _ ?_))
       clear hK16
       refine wp_seq' fun K21 hK21 => ?_
       refine wp_reg ?_
       refine ol_r (r_move rfl) rfl ?_
       refine ol_r (r_not rfl) rfl ?_
       refine ol_nil (to_k0 (fun _ _ h => h) (hK21 _ _ _ _ _ ?_))
       clear hK21
       first | refine wp_condD rfl (fun hc170 => ?_) (fun hc170 => ?_) | refine wp_condN rfl (fun hc170 => ?_) (fun hc170 => ?_) | refine wp_condNB rfl (fun hc170 => ?_) (fun hc170 => ?_) | refine wp_cond' rfl (fun hc170 => ?_) (fun hc170 => ?_)
       ·exfalso
        first | exact hc170 rfl | (simp at hc170; done)
       ·refine wp_skip' (to_k0 (fun _ _ h => h) (hK13 _ _ _ _ _ ?_))
        clear hK13
        refine wp_reg ?_
        refine ol_r (r_add rfl rfl (by omega)) rfl ?_
        refine ol_r (r_move rfl) rfl ?_
        refine ol_nil (to_k0 (fun _ _ h => h) (hK10 ((i + 1, addD D first x54.day x54.n)) _ _ ?_ ?_ (sub_cons rfl sub_nil) (sub_cons rfl (sub_cons rfl (sub_cons rfl (sub_cons rfl sub_nil)))) (by exact (subH_same rfl (subH_same rfl subH_nil))) (subH_same rfl (subH_same rfl subH_nil))))
        ·try dsimp only
         exact ⟨by omega, bkOk_add hok⟩
        ·try dsimp only
         omega
      ·refine wp_seq' fun K22 hK22 => ?_
       refine wp_reg ?_
       refine ol_r (r_eql rfl rfl) rfl ?_
       refine ol_r (r_assign rfl) rfl ?_
       refine ol_nil (to_k0 (fun _ _ h => h) (hK22 _ _ _ _ _ ?_))
       clear hK22
       first | refine wp_condD rfl (fun hc102 => ?_) (fun hc102 => ?_) | refine wp_condN rfl (fun hc102 => ?_) (fun hc102 => ?_) | refine wp_condNB rfl (fun hc102 => ?_) (fun hc102 => ?_) | refine wp_cond' rfl (fun hc102 => ?_) (fun hc102 => ?_)
       ·refine wp_rega [(999, [(14, _), (1011, _), (1021, _)]), (5, [(1012, _)]), (11, [(1022, _)])] (by kernel_rfl) ⟨.inr (subH_same rfl (subH_same rfl (subH_same rfl subH_nil))), ⟨.inr (subH_same rfl subH_nil), ⟨.inr (subH_same rfl subH_nil), trivial⟩⟩⟩ ?_
        refine aq_r 0 999 rfl (by kernel_rfl) (by kernel_rfl) (by kernel_rfl) (.head _) (by kernel_rfl) (by kernel_rfl) rfl (r_move rfl) ?_
        refine aq_r 1 999 rfl (by kernel_rfl) (by kernel_rfl) (by kernel_rfl) (.head _) (by kernel_rfl) (by kernel_rfl) rfl (r_fa (o' := 1) rfl fl58_1 rfl) ?_
        refine aq_r 2 999 rfl (by kernel_rfl) (by kernel_rfl) (by kernel_rfl) (.head _) (by kernel_rfl) (by kernel_rfl) rfl (r_ld (id := 14) rfl rfl rfl sc3) ?_
        refine aq_r 3 999 rfl (by kernel_rfl) (by kernel_rfl) (by kernel_rfl) (.head _) (by kernel_rfl) (by kernel_rfl) rfl (r_fa (o' := 2) rfl fl58_2 rfl) ?_
        refine aq_r 4 999 rfl (by kernel_rfl) (by kernel_rfl) (by kernel_rfl) (.head _) (by kernel_rfl) (by kernel_rfl) rfl (r_ld (id := 14) rfl rfl rfl sc3) ?_
        refine aq_r 6 999 rfl (by kernel_rfl) (by kernel_rfl) (by kernel_rfl) (.head _) (by kernel_rfl) (by kernel_rfl) rfl (r_move rfl) ?_
        refine aq_r 7 999 rfl (by kernel_rfl) (by kernel_rfl) (by kernel_rfl) (.head _) (by kernel_rfl) (by kernel_rfl) rfl (r_fa (o' := 1) rfl fl58_1 rfl) ?_
        refine aq_r 8 999 rfl (by kernel_rfl) (by kernel_rfl) (by kernel_rfl) (.head _) (by kernel_rfl) (by kernel_rfl) rfl (r_ld (id := 14) rfl rfl rfl sc3) ?_
        refine aq_r 9 999 rfl (by kernel_rfl) (by kernel_rfl) (by kernel_rfl) (.head _) (by kernel_rfl) (by kernel_rfl) rfl (r_fa (o' := 2) rfl fl58_2 rfl) ?_
        refine aq_r 10 999 rfl (by kernel_rfl) (by kernel_rfl) (by kernel_rfl) (.head _) (by kernel_rfl) (by kernel_rfl) rfl (r_ld (id := 14) rfl rfl rfl sc3) ?_
        refine aq_one (i := 5) (by kernel_rfl) rfl fun K23 hK23 => ?_
        refine ol_call rfl rfl cb40 rfl (fun w1 hb1 hs1 hB1 => ?_)
        refine Calls.mono (load_Take _ b1 m1 first fit fat x54.day x54.n D _ _ _ _ hB1 hok (hs1.kle [(1011, 810), (1012, 811), (14, 901), (1021, 902), (1022, 903)] (kle_cons rfl (Ent.le_refl _) (kle_cons rfl (Ent.le_refl _) (kle_cons rfl (Ent.le_refl _) (kle_cons rfl (Ent.le_refl _) (kle_cons rfl (Ent.le_refl _) kle_nil))))) (by decide))) ?_
        rintro e w2 ⟨rfl, hb2, hs2, hB2, hk2⟩
        refine After.sat rfl hb1 hb2 (hs2.kle [(810, 1011), (811, 1012), (901, 14), (902, 1021), (903, 1022)] (kle_cons rfl (Ent.le_refl _) (kle_cons rfl (Ent.le_refl _) (kle_cons rfl (Ent.le_refl _) (kle_cons rfl (Ent.le_refl _) (kle_cons rfl (Ent.le_refl _) kle_nil))))) (by decide)) hB2 (hk2.imp fun _ h => h) ?_
        clear hk2 hs2 hb2 hB2 hB1 hs1 hb1 w2 w1
        refine ol_nil (to_k0 (fun _ _ h => h) (hK23 _ _ ⟨.inr (by repeat' first | exact subH_nil | refine subH_same rfl ?_ | (refine subH_blk rfl (by repeat' first | exact sub_nil | refine sub_cons rfl ?_) ?_)), ⟨.inl (by kernel_rfl), ⟨.inr (by repeat' first | exact subH_nil | refine subH_same rfl ?_ | (refine subH_blk rfl (by repeat' first | exact sub_nil | refine sub_cons rfl ?_) ?_)), trivial⟩⟩⟩ ?_))
        clear hK23
        refine aq_one (i := 11) (by kernel_rfl) rfl fun K24 hK24 => ?_
        refine ol_call rfl rfl cb41 rfl (fun w1 hb1 hs1 hB1 => ?_)
        refine Calls.mono (ref_Take _ b2 m2 first fit fat x54.day x54.n D _ _ _ _ hB1 hok (hs1.kle [(1021, 810), (1022, 811), (14, 901), (1011, 902), (1012, 903)] (kle_cons rfl (Ent.le_refl _) (kle_cons rfl (Ent.le_refl _) (kle_cons rfl (Ent.le_refl _) (kle_cons rfl (Ent.le_refl _) (kle_cons rfl (Ent.le_refl _) kle_nil))))) (by decide))) ?_
        rintro e w2 ⟨rfl, hb2, hs2, hB2, hk2⟩
        refine After.sat rfl hb1 hb2 (hs2.kle [(810, 1021), (811, 1022), (901, 14), (902, 1011), (903, 1012)] (kle_cons rfl (Ent.le_refl _) (kle_cons rfl (Ent.le_refl _) (kle_cons rfl (Ent.le_refl _) (kle_cons rfl (Ent.le_refl _) (kle_cons rfl (Ent.le_refl _) kle_nil))))) (by decide)) hB2 (hk2.imp fun _ h => h) ?_
        clear hk2 hs2 hb2 hB2 hB1 hs1 hb1 w2 w1
        refine ol_nil (to_k0 (fun _ _ h => h) (hK24 _ _ ⟨.inr (by repeat' first | exact subH_nil | refine subH_same rfl ?_ | (refine subH_blk rfl (by repeat' first | exact sub_nil | refine sub_cons rfl ?_) ?_)), ⟨.inl (by kernel_rfl), ⟨.inl (by kernel_rfl), trivial⟩⟩⟩ ?_))
        clear hK24
        refine aq_r 12 999 rfl (by kernel_rfl) (by kernel_rfl) (by kernel_rfl) (.head _) (by kernel_rfl) (by kernel_rfl) rfl (r_eql rfl rfl) ?_
        refine aq_r 13 999 rfl (by kernel_rfl) (by kernel_rfl) (by kernel_rfl) (.head _) (by kernel_rfl) (by kernel_rfl) rfl (r_assign rfl) ?_
        refine aq_done (by kernel_rfl) ?_
        refine (to_k0 (fun _ _ h => h) (hK16 _ _ _ _ _ ?_))
        clear hK16
        refine wp_seq' fun K25 hK25 => ?_
        refine wp_reg ?_
        refine ol_r (r_move rfl) rfl ?_
        refine ol_r (r_not rfl) rfl ?_
        refine ol_nil (to_k0 (fun _ _ h => h) (hK25 _ _ _ _ _ ?_))
        clear hK25
        first | refine wp_condD rfl (fun hc170 => ?_) (fun hc170 => ?_) | refine wp_condN rfl (fun hc170 => ?_) (fun hc170 => ?_) | refine wp_condNB rfl (fun hc170 => ?_) (fun hc170 => ?_) | refine wp_cond' rfl (fun hc170 => ?_) (fun hc170 => ?_)
        ·exfalso
         first | exact hc170 rfl | (simp at hc170; done)
        ·refine wp_skip' (to_k0 (fun _ _ h => h) (hK13 _ _ _ _ _ ?_))
         clear hK13
         refine wp_reg ?_
         refine ol_r (r_add rfl rfl (by omega)) rfl ?_
         refine ol_r (r_move rfl) rfl ?_
         refine ol_nil (to_k0 (fun _ _ h => h) (hK10 ((i + 1, takeD D first x54.day x54.n)) _ _ ?_ ?_ (sub_cons rfl sub_nil) (sub_cons rfl (sub_cons rfl (sub_cons rfl (sub_cons rfl sub_nil)))) (by exact (subH_same rfl (subH_same rfl subH_nil))) (subH_same rfl (subH_same rfl subH_nil))))
         ·try dsimp only
          exact ⟨by omega, bkOk_take hok⟩
         ·try dsimp only
          omega
       ·refine wp_seq' fun K26 hK26 => ?_
        refine wp_reg ?_
        refine ol_r (r_eql rfl rfl) rfl ?_
        refine ol_r (r_assign rfl) rfl ?_
        refine ol_nil (to_k0 (fun _ _ h => h) (hK26 _ _ _ _ _ ?_))
        clear hK26
        first | refine wp_condD rfl (fun hc117 => ?_) (fun hc117 => ?_) | refine wp_condN rfl (fun hc117 => ?_) (fun hc117 => ?_) | refine wp_condNB rfl (fun hc117 => ?_) (fun hc117 => ?_) | refine wp_cond' rfl (fun hc117 => ?_) (fun hc117 => ?_)
        ·refine wp_seq' fun K27 hK27 => ?_
         refine wp_reg ?_
         refine ol_r (r_move rfl) rfl ?_
         refine ol_r (r_fa (o' := 1) rfl fl58_1 rfl) rfl ?_
         refine ol_r (r_ld (id := 14) rfl rfl rfl sc3) rfl ?_
         refine ol_call rfl rfl cb42 rfl (fun w1 hb1 hs1 hB1 => Calls.mono (load_On b1 m1 first fit fat x54.day D _ (hs1.blk (id := 1011) rfl) (hs1.mp (id := 1012) rfl) hok) ?_)
         rintro e w2 ⟨rfl, hb2⟩
         refine After.below rfl hb1 hs1 hB1 hb2 ?_
         clear hb2 hB1 hs1 hb1 w2 w1
         refine ol_r (r_move rfl) rfl ?_
         refine ol_r (r_extract rfl rfl) rfl ?_
         refine ol_r (r_extract rfl rfl) rfl ?_
         refine ol_alloc 16 z61 rfl fun b16 => ?_
         refine ol_store (id := 16) rfl rfl rfl rfl sz61 rfl rfl (by first | decide | exact Nat.zero_lt_succ _ | simp) ?_
         refine ol_r (r_assign rfl) rfl ?_
         refine ol_nil (to_k0 (fun _ _ h => h) (hK27 _ _ _ _ _ ?_))
         clear hK27
         refine wp_seq' fun K28 hK28 => ?_
         refine wp_reg ?_
         refine ol_r (r_move rfl) rfl ?_
         refine ol_r (r_fa (o' := 1) rfl fl58_1 rfl) rfl ?_
         refine ol_r (r_ld (id := 14) rfl rfl rfl sc3) rfl ?_
         refine ol_call rfl rfl cb43 rfl (fun w1 hb1 hs1 hB1 => Calls.mono (ref_On b2 m2 first fit fat x54.day D _ (hs1.blk (id := 1021) rfl) (hs1.mp (id := 1022) rfl) hok) ?_)
         rintro e w2 ⟨rfl, hb2⟩
         refine After.below rfl hb1 hs1 hB1 hb2 ?_
         clear hb2 hB1 hs1 hb1 w2 w1
         refine ol_r (r_move rfl) rfl ?_
         refine ol_r (r_extract rfl rfl) rfl ?_
         refine ol_r (r_extract rfl rfl) rfl ?_
         refine ol_alloc 18 z61 rfl fun b18 => ?_
         refine ol_store (id := 18) rfl rfl rfl rfl sz61 rfl rfl (by first | decide | exact Nat.zero_lt_succ _ | simp) ?_
         refine ol_r (r_assign rfl) rfl ?_
         refine ol_nil (to_k0 (fun _ _ h => h) (hK28 _ _ _ _ _ ?_))
         clear hK28
         refine wp_reg ?_
         refine ol_r (r_lda (id := 16) (n := 5) rfl rfl rfl ag61) rfl ?_
         refine ol_r (r_lda (id := 18) (n := 5) rfl rfl rfl ag61) rfl ?_
         refine ol_r (r_eqs rfl rfl (by kernel_rfl) (fun w => run_eqs (by kernel_rfl) (by kernel_rfl) w)) rfl ?_
         refine ol_r (r_move rfl) rfl ?_
         refine ol_split (d := 136) rfl (fun hs136 => ?_) (fun hs136 => ?_)
         ·have phs136 := hs136; try simp only [decide_eq_true_eq, decide_eq_false_iff_not, Bool.not_eq_true', Bool.not_eq_false', Bool.not_true, Bool.not_false] at phs136
          refine ol_g rfl rfl hs136 ?_
          refine ol_r (r_move rfl) rfl ?_
          refine ol_g rfl rfl hs136 ?_
          refine ol_r (r_move rfl) rfl ?_
          refine ol_g rfl rfl hs136 ?_
          refine ol_r (r_eql rfl rfl) rfl ?_
          refine ol_r (r_pickT rfl hs136 rfl) rfl ?_
          refine ol_r (r_assign rfl) rfl ?_
          refine ol_nil (to_k0 (fun _ _ h => h) (hK16 _ _ _ _ _ ?_))
          clear hK16
          refine wp_seq' fun K29 hK29 => ?_
          refine wp_reg ?_
          refine ol_r (r_move rfl) rfl ?_
          refine ol_r (r_not rfl) rfl ?_
          refine ol_nil (to_k0 (fun _ _ h => h) (hK29 _ _ _ _ _ ?_))
          clear hK29
          first | refine wp_condD rfl (fun hc170 => ?_) (fun hc170 => ?_) | refine wp_condN rfl (fun hc170 => ?_) (fun hc170 => ?_) | refine wp_condNB rfl (fun hc170 => ?_) (fun hc170 => ?_) | refine wp_cond' rfl (fun hc170 => ?_) (fun hc170 => ?_)
          ·exfalso
           first | exact hc170 rfl | (simp at hc170; done)
          ·refine wp_skip' (to_k0 (fun _ _ h => h) (hK13 _ _ _ _ _ ?_))
           clear hK13
           refine wp_reg ?_
           refine ol_r (r_add rfl rfl (by omega)) rfl ?_
           refine ol_r (r_move rfl) rfl ?_
           refine ol_nil (to_k0 (fun _ _ h => h) (hK10 ((i + 1, D)) _ _ ?_ ?_ (sub_cons rfl sub_nil) (sub_cons rfl (sub_cons rfl (sub_cons rfl (sub_cons rfl sub_nil)))) (by exact (subH_same rfl (subH_same rfl subH_nil))) (subH_same rfl (subH_same rfl subH_nil))))
           ·try dsimp only
            exact ⟨by omega, hok⟩
           ·try dsimp only
            omega
         ·have phs136 := hs136; try simp only [decide_eq_true_eq, decide_eq_false_iff_not, Bool.not_eq_true', Bool.not_eq_false', Bool.not_true, Bool.not_false] at phs136
          exfalso
          exact eqs_same5 _ _ _ _ _ hs136
        ·refine wp_seq' fun K30 hK30 => ?_
         refine wp_reg ?_
         refine ol_r (r_eql rfl rfl) rfl ?_
         refine ol_r (r_assign rfl) rfl ?_
         refine ol_nil (to_k0 (fun _ _ h => h) (hK30 _ _ _ _ _ ?_))
         clear hK30
         first | refine wp_condD rfl (fun hc141 => ?_) (fun hc141 => ?_) | refine wp_condN rfl (fun hc141 => ?_) (fun hc141 => ?_) | refine wp_condNB rfl (fun hc141 => ?_) (fun hc141 => ?_) | refine wp_cond' rfl (fun hc141 => ?_) (fun hc141 => ?_)
         ·refine wp_seq' fun K31 hK31 => ?_
          refine wp_reg ?_
          refine ol_r (r_move rfl) rfl ?_
          refine ol_r (r_fa (o' := 1) rfl fl58_1 rfl) rfl ?_
          refine ol_r (r_ld (id := 14) rfl rfl rfl sc3) rfl ?_
          refine ol_r (r_fa (o' := 2) rfl fl58_2 rfl) rfl ?_
          refine ol_r (r_ld (id := 14) rfl rfl rfl sc3) rfl ?_
          refine ol_call rfl rfl cb44 rfl (fun w1 hb1 hs1 hB1 => ?_)
          refine Calls.mono (load_Between b1 m1 first fit fat x54.day x54.n D _ (hs1.blk (id := 1011) rfl) (hs1.mp (id := 1012) rfl) hok) ?_
          rintro e w2 ⟨⟨a1, c1, rfl, hs2⟩, hb2⟩
          refine After.more rfl hb1 hs1 hB1 hb2 (hs2.kle [(1001, 1031)] (kle_cons rfl (Ent.le_refl _) kle_nil) (by decide)) ?_
          clear hs2 hb2 hB1 hs1 hb1 w2 w1
          refine ol_r (r_move rfl) rfl ?_
          refine ol_r (r_extract rfl rfl) rfl ?_
          refine ol_r (r_extract rfl rfl) rfl ?_
          refine ol_r (r_assign rfl) rfl ?_
          refine ol_r (r_assign rfl) rfl ?_
          refine ol_nil (to_k0 (fun _ _ h => h) (hK31 _ _ _ _ _ ?_))
          clear hK31
          refine wp_seq' fun K32 hK32 => ?_
          refine wp_reg ?_
          refine ol_r (r_move rfl) rfl ?_
          refine ol_r (r_fa (o' := 1) rfl fl58_1 rfl) rfl ?_
          refine ol_r (r_ld (id := 14) rfl rfl rfl sc3) rfl ?_
          refine ol_r (r_fa (o' := 2) rfl fl58_2 rfl) rfl ?_
          refine ol_r (r_ld (id := 14) rfl rfl rfl sc3) rfl ?_
          refine ol_call rfl rfl cb45 rfl (fun w1 hb1 hs1 hB1 => ?_)
          refine Calls.mono (ref_Between b2 m2 first fit fat x54.day x54.n D _ (hs1.blk (id := 1021) rfl) (hs1.mp (id := 1022) rfl) hok) ?_
          rintro e w2 ⟨⟨a2, c2, rfl, hs2⟩, hb2⟩
          refine After.more rfl hb1 hs1 hB1 hb2 (hs2.kle [(1001, 1032)] (kle_cons rfl (Ent.le_refl _) kle_nil) (by decide)) ?_
          clear hs2 hb2 hB1 hs1 hb1 w2 w1
          refine ol_r (r_move rfl) rfl ?_
          refine ol_r (r_extract rfl rfl) rfl ?_
          refine ol_r (r_extract rfl rfl) rfl ?_
          refine ol_r (r_assign rfl) rfl ?_
          refine ol_r (r_assign rfl) rfl ?_
          refine ol_nil (to_k0 (fun _ _ h => h) (hK32 _ _ _ _ _ ?_))
          clear hK32
          refine wp_reg ?_
          refine ol_r (r_move rfl) rfl ?_
          refine ol_r (r_move rfl) rfl ?_
          refine ol_call rfl rfl cb46 rfl (fun w1 hb1 hs1 hB1 => Calls.mono (equal_state_same _ _ _ _ _ (betR (mG (0 : Int) D) first fit fat x54.day x54.n).1 _ (hs1.rd (id := 1031) rfl rfl) (hs1.rd (id := 1032) rfl rfl)) ?_)
          rintro e w2 ⟨rfl, hb2⟩
          refine After.below rfl hb1 hs1 hB1 hb2 ?_
          clear hb2 hB1 hs1 hb1 w2 w1
          refine ol_r (r_move rfl) rfl ?_
          refine ol_split (d := 164) rfl (fun hs164 => ?_) (fun hs164 => ?_)
          ·have phs164 := hs164; try simp only [decide_eq_true_eq, decide_eq_false_iff_not, Bool.not_eq_true', Bool.not_eq_false', Bool.not_true, Bool.not_false] at phs164
           refine ol_g rfl rfl hs164 ?_
           refine ol_r (r_move rfl) rfl ?_
           refine ol_g rfl rfl hs164 ?_
           refine ol_r (r_move rfl) rfl ?_
           refine ol_g rfl rfl hs164 ?_
           refine ol_r (r_eql rfl rfl) rfl ?_
           refine ol_r (r_pickT rfl hs164 rfl) rfl ?_
           refine ol_r (r_assign rfl) rfl ?_
           refine ol_nil (to_k0 (fun _ _ h => h) (hK16 _ _ _ _ _ ?_))
           clear hK16
           refine wp_seq' fun K33 hK33 => ?_
           refine wp_reg ?_
           refine ol_r (r_move rfl) rfl ?_
           refine ol_r (r_not rfl) rfl ?_
           refine ol_nil (to_k0 (fun _ _ h => h) (hK33 _ _ _ _ _ ?_))
           clear hK33
           first | refine wp_condD rfl (fun hc170 => ?_) (fun hc170 => ?_) | refine wp_condN rfl (fun hc170 => ?_) (fun hc170 => ?_) | refine wp_condNB rfl (fun hc170 => ?_) (fun hc170 => ?_) | refine wp_cond' rfl (fun hc170 => ?_) (fun hc170 => ?_)
           ·exfalso
            first | exact hc170 rfl | (simp at hc170; done)
           ·refine wp_skip' (to_k0 (fun _ _ h => h) (hK13 _ _ _ _ _ ?_))
            clear hK13
            refine wp_reg ?_
            refine ol_r (r_add rfl rfl (by omega)) rfl ?_
            refine ol_r (r_move rfl) rfl ?_
            refine ol_nil (to_k0 (fun _ _ h => h) (hK10 ((i + 1, D)) _ _ ?_ ?_ (sub_cons rfl sub_nil) (sub_cons rfl (sub_cons rfl (sub_cons rfl (sub_cons rfl sub_nil)))) (by exact (subH_same rfl (subH_same rfl subH_nil))) (subH_same rfl (subH_same rfl subH_nil))))
            ·try dsimp only
             exact ⟨by omega, hok⟩
            ·try dsimp only
             omega
          ·have phs164 := hs164; try simp only [decide_eq_true_eq, decide_eq_false_iff_not, Bool.not_eq_true', Bool.not_eq_false', Bool.not_true, Bool.not_false] at phs164
           exfalso
           exact Bool.noConfusion hs164
         ·refine wp_seq' fun K34 hK34 => ?_
          refine wp_reg ?_
          refine ol_r (r_move rfl) rfl ?_
          refine ol_r (r_fa (o' := 1) rfl fl58_1 rfl) rfl ?_
          refine ol_r (r_ld (id := 14) rfl rfl rfl sc3) rfl ?_
          refine ol_call rfl rfl cb47 rfl (fun w1 hb1 hs1 hB1 => Calls.mono (load_Ratio b1 m1 first fit fat x54.day D _ (hs1.blk (id := 1011) rfl) (hs1.mp (id := 1012) rfl) hok) ?_)
          rintro e w2 ⟨rfl, hb2⟩
          refine After.below rfl hb1 hs1 hB1 hb2 ?_
          clear hb2 hB1 hs1 hb1 w2 w1
          refine ol_r (r_move rfl) rfl ?_
          refine ol_r (r_extract rfl rfl) rfl ?_
          refine ol_r (r_extract rfl rfl) rfl ?_
          refine ol_r (r_extract rfl rfl) rfl ?_
          refine ol_alloc 24 z40 rfl fun b24 => ?_
          refine ol_store (id := 24) rfl rfl rfl rfl sz40 rfl rfl (by first | decide | exact Nat.zero_lt_succ _ | simp) ?_
          refine ol_r (r_assign rfl) rfl ?_
          refine ol_r (r_assign rfl) rfl ?_
          refine ol_nil (to_k0 (fun _ _ h => h) (hK34 _ _ _ _ _ ?_))
          clear hK34
          refine wp_seq' fun K35 hK35 => ?_
          refine wp_reg ?_
          refine ol_r (r_move rfl) rfl ?_
          refine ol_r (r_fa (o' := 1) rfl fl58_1 rfl) rfl ?_
          refine ol_r (r_ld (id := 14) rfl rfl rfl sc3) rfl ?_
          refine ol_call rfl rfl cb48 rfl (fun w1 hb1 hs1 hB1 => Calls.mono (ref_Ratio b2 m2 first fit fat x54.day D _ (hs1.blk (id := 1021) rfl) (hs1.mp (id := 1022) rfl) hok) ?_)
          rintro e w2 ⟨rfl, hb2⟩
          refine After.below rfl hb1 hs1 hB1 hb2 ?_
          clear hb2 hB1 hs1 hb1 w2 w1
          refine ol_r (r_move rfl) rfl ?_
          refine ol_r (r_extract rfl rfl) rfl ?_
          refine ol_r (r_extract rfl rfl) rfl ?_
          refine ol_r (r_extract rfl rfl) rfl ?_
          refine ol_alloc 27 z40 rfl fun b27 => ?_
          refine ol_store (id := 27) rfl rfl rfl rfl sz40 rfl rfl (by first | decide | exact Nat.zero_lt_succ _ | simp) ?_
          refine ol_r (r_assign rfl) rfl ?_
          refine ol_r (r_assign rfl) rfl ?_
          refine ol_nil (to_k0 (fun _ _ h => h) (hK35 _ _ _ _ _ ?_))
          clear hK35
          refine wp_reg ?_
          refine ol_r (r_lda (id := 24) (n := 2) rfl rfl rfl ag40) rfl ?_
          refine ol_r (r_lda (id := 27) (n := 2) rfl rfl rfl ag40) rfl ?_
          refine ol_r (r_eqs rfl rfl (by kernel_rfl) (fun w => run_eqs (by kernel_rfl) (by kernel_rfl) w)) rfl ?_
          refine ol_r (r_move rfl) rfl ?_
          refine ol_split (d := 77) rfl (fun hs77 => ?_) (fun hs77 => ?_)
          ·have phs77 := hs77; try simp only [decide_eq_true_eq, decide_eq_false_iff_not, Bool.not_eq_true', Bool.not_eq_false', Bool.not_true, Bool.not_false] at phs77
           refine ol_g rfl rfl hs77 ?_
           refine ol_r (r_move rfl) rfl ?_
           refine ol_g rfl rfl hs77 ?_
           refine ol_r (r_move rfl) rfl ?_
           refine ol_g rfl rfl hs77 ?_
           refine ol_r (r_beql rfl rfl (by kernel_rfl)) rfl ?_
           refine ol_r (r_pickT rfl hs77 rfl) rfl ?_
           refine ol_r (r_move rfl) rfl ?_
           refine ol_split (d := 82) rfl (fun hs82 => ?_) (fun hs82 => ?_)
           ·have phs82 := hs82; try simp only [decide_eq_true_eq, decide_eq_false_iff_not, Bool.not_eq_true', Bool.not_eq_false', Bool.not_true, Bool.not_false] at phs82
            refine ol_g rfl rfl hs82 ?_
            refine ol_r (r_move rfl) rfl ?_
            refine ol_g rfl rfl hs82 ?_
            refine ol_r (r_move rfl) rfl ?_
            refine ol_g rfl rfl hs82 ?_
            refine ol_r (r_eql rfl rfl) rfl ?_
            refine ol_r (r_pickT rfl hs82 rfl) rfl ?_
            refine ol_r (r_assign rfl) rfl ?_
            refine ol_nil (to_k0 (fun _ _ h => h) (hK16 _ _ _ _ _ ?_))
            clear hK16
            refine wp_seq' fun K36 hK36 => ?_
            refine wp_reg ?_
            refine ol_r (r_move rfl) rfl ?_
            refine ol_r (r_not rfl) rfl ?_
            refine ol_nil (to_k0 (fun _ _ h => h) (hK36 _ _ _ _ _ ?_))
            clear hK36
            first | refine wp_condD rfl (fun hc170 => ?_) (fun hc170 => ?_) | refine wp_condN rfl (fun hc170 => ?_) (fun hc170 => ?_) | refine wp_condNB rfl (fun hc170 => ?_) (fun hc170 => ?_) | refine wp_cond' rfl (fun hc170 => ?_) (fun hc170 => ?_)
            ·exfalso
             first | exact hc170 rfl | (simp at hc170; done)
            ·refine wp_skip' (to_k0 (fun _ _ h => h) (hK13 _ _ _ _ _ ?_))
             clear hK13
             refine wp_reg ?_
             refine ol_r (r_add rfl rfl (by omega)) rfl ?_
             refine ol_r (r_move rfl) rfl ?_
             refine ol_nil (to_k0 (fun _ _ h => h) (hK10 ((i + 1, D)) _ _ ?_ ?_ (sub_cons rfl sub_nil) (sub_cons rfl (sub_cons rfl (sub_cons rfl (sub_cons rfl sub_nil)))) (by exact (subH_same rfl (subH_same rfl subH_nil))) (subH_same rfl (subH_same rfl subH_nil))))
             ·try dsimp only
              exact ⟨by omega, hok⟩
             ·try dsimp only
              omega
           ·have phs82 := hs82; try simp only [decide_eq_true_eq, decide_eq_false_iff_not, Bool.not_eq_true', Bool.not_eq_false', Bool.not_true, Bool.not_false] at phs82
            exfalso
            first | exact phs82 trivial | (simp at hs82; done)
          ·have phs77 := hs77; try simp only [decide_eq_true_eq, decide_eq_false_iff_not, Bool.not_eq_true', Bool.not_eq_false', Bool.not_true, Bool.not_false] at phs77
           exfalso
           exact eqs_same2 _ _ hs77
     ·refine wp_exit' (to_k0 (fun _ _ h => h) (hK8 _ _ _ _ _ ?_))
      clear hK8
      refine wp_seq' fun K37 hK37 => ?_
      refine wp_reg ?_
      refine ol_call rfl rfl cb14 rfl (fun w1 hb1 hs1 hB1 => Calls.mono (load_told _) ?_)
      rintro e w2 ⟨rfl, hb2⟩
      refine After.below rfl hb1 hs1 hB1 hb2 ?_
      clear hb2 hB1 hs1 hb1 w2 w1
      refine ol_r (r_assign rfl) rfl ?_
      refine ol_nil (to_k0 (fun _ _ h => h) (hK37 _ _ _ _ _ ?_))
      clear hK37
      refine hQ.ret (rvs1 (rv_t rfl)) (fun _ _ h => h) fun w hb hs hB hkd => ?_
      exact ⟨rfl, hb⟩
theorem law_book (first fit fat : Int) (ca : Option Addr) (cn cc : Nat) (cs : List CallR) (w : World) (hl : Rd encCall w.heap.size w ca cn cc cs) :
    Calls Try.prog 8 #[.int .i64 first, .int .i64 fit, .int .i64 fat, .slice ca cn cc] w fun e w' => e = .returned (.bool true) ∧ Below w.heap.size w w' := by
  cases h : newB first fit fat with
  | true => exact law_book_ok first fit fat ca cn cc cs w hl h
  | false => exact law_book_no first fit fat ca cn cc w h
end Go.Proofs.Ytamlldedmhkobaa
