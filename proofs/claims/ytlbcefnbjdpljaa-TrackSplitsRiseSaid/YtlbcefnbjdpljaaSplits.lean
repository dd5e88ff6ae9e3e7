/-
  Splits: program and reference; TrackSplitsMatchSpec.
-/
import Derived.Test.YtlbcefnbjdpljaaScale
import Derived.Test.YtlbcefnbjdpljaaHill
namespace Go.Proofs.Ytlbcefnbjdpljaa
open Go Go.RowKit Hx
set_option linter.unusedVariables false
set_option linter.unusedSimpArgs false
set_option maxRecDepth 8000
def encSplit : Enc SplitR := { size := 2, cells := fun x => [.int .i64 x.way, .int .i64 x.at_], val := fun x => .agg #[.int .i64 x.way, .int .i64 x.at_], len := fun _ => rfl, ones := fun _ u h => (by simp at h; rcases h with h | h <;> subst h <;> rfl), pos := by decide, vc := fun _ => rfl }
theorem ty65 : Ty Try.prog 65 encSplit := .inr ⟨ag65, fun _ => rfl⟩
theorem equal_split_same (a b : Option Addr) (n c1 c2 : Nat) (xs : List SplitR) (w : World) (hx : Rd encSplit w.heap.size w a n c1 xs) (hy : Rd encSplit w.heap.size w b n c2 xs) :
    Calls Try.prog 33 #[.slice a n c1, .slice b n c2] w fun e w' => e = .returned (.bool true) ∧ Below w.heap.size w w' := by
  have hn := hx.len
  have hf := hx.fit
  refine enterQ (N := 26) (C := fun _ => True) (H := []) (B := w.heap.size) (args := [_, _]) Try.func33 rfl rfl rfl (Nat.le_refl _) (Sat.nil _ _) fun Q hQ => ?_
  refine wp_seq' fun K1 hK1 => ?_
  refine wp_reg ?_
  refine ol_r (r_assign rfl) rfl ?_
  refine ol_nil (to_k0 (fun _ _ h => h) (hK1 _ _ _ _ _ ?_))
  clear hK1
  refine wp_seq' fun K2 hK2 => ?_
  refine wp_seq' fun K3 hK3 => ?_
  refine wp_reg ?_
  refine ol_r (r_move rfl) rfl ?_
  refine ol_r (r_len rfl sl60) rfl ?_
  refine ol_r (r_move rfl) rfl ?_
  refine ol_r (r_len rfl sl60) rfl ?_
  refine ol_r (r_neq rfl rfl) rfl ?_
  refine ol_nil (to_k0 (fun _ _ h => h) (hK3 _ _ _ _ _ ?_))
  clear hK3
  first | refine wp_condD rfl (fun hc10 => ?_) (fun hc10 => ?_) | refine wp_condN rfl (fun hc10 => ?_) (fun hc10 => ?_) | refine wp_condNB rfl (fun hc10 => ?_) (fun hc10 => ?_) | refine wp_cond' rfl (fun hc10 => ?_) (fun hc10 => ?_)
  ·refine wp_seq' fun K4 hK4 => ?_
   refine wp_reg ?_
   refine ol_r (r_assign rfl) rfl ?_
   refine ol_nil (to_k0 (fun _ _ h => h) (hK4 _ _ _ _ _ ?_))
   clear hK4
   refine hQ.ret (rvs1 (rv_t rfl)) (fun _ _ h => h) fun w hb hs hB hkd => ?_
   first
     | exact ⟨rfl, hb⟩
     | (exfalso; simp_all; done)
     | (exfalso; simp_all [eqs, eqV, encSplit]; done)
  ·refine wp_skip' (to_k0 (fun _ _ h => h) (hK2 _ _ _ _ _ ?_))
   clear hK2
   refine wp_seq' fun K5 hK5 => ?_
   refine wp_seq' fun K6 hK6 => ?_
   refine wp_reg ?_
   refine ol_r (r_move rfl) rfl ?_
   refine ol_r (r_len rfl sl60) rfl ?_
   refine ol_r (r_move rfl) rfl ?_
   refine ol_nil (to_k0 (fun _ _ h => h) (hK6 _ _ _ _ _ ?_))
   clear hK6
   refine wp_block' ?_
   apply wp_loopM (σ := Nat) (fun s => s ≤ n) (fun s => [(13, .int .i64 s)]) [(0, _), (1, _), (12, _)] (fun s => []) [] (fun s => n - s) (0)
   ·try dsimp only
    simp
   ·exact (sub_cons rfl sub_nil)
   ·exact (sub_cons rfl (sub_cons rfl (sub_cons rfl sub_nil)))
   ·exact subH_nil
   ·exact subH_nil
   ·intro k hk
    intro K7 hK7
    refine wp_seq' fun K8 hK8 => ?_
    refine wp_reg ?_
    refine ol_r (r_lss rfl rfl) rfl ?_
    refine ol_nil (to_k0 (fun _ _ h => h) (hK8 _ _ _ _ _ ?_))
    clear hK8
    refine wp_seq' fun K9 hK9 => ?_
    first | refine wp_condD rfl (fun hc14 => ?_) (fun hc14 => ?_) | refine wp_condN rfl (fun hc14 => ?_) (fun hc14 => ?_) | refine wp_condNB rfl (fun hc14 => ?_) (fun hc14 => ?_) | refine wp_cond' rfl (fun hc14 => ?_) (fun hc14 => ?_)
    ·refine wp_skip' (to_k0 (fun _ _ h => h) (hK9 _ _ _ _ _ ?_))
     clear hK9
     refine wp_seq' fun K10 hK10 => ?_
     refine wp_block' ?_
     refine wp_seq' fun K11 hK11 => ?_
     refine wp_reg ?_
     refine ol_r (r_move rfl) rfl ?_
     refine ol_r (r_assign rfl) rfl ?_
     refine ol_nil (to_k0 (fun _ _ h => h) (hK11 _ _ _ _ _ ?_))
     clear hK11
     refine wp_seq' fun K12 hK12 => ?_
     refine wp_regq (by kernel_rfl) (by kernel_rfl) ?_
     refine ql_r (r_move rfl) rfl ?_
     refine ql_r (r_move rfl) rfl ?_
     refine ql_ixr hx rfl rfl sl60 (by omega) rfl fun x18 hx18 => ?_
     try simp only [Int.toNat_natCast] at hx18
     refine ql_r (r_ldw rfl (fun w1 hb1 hs1 hB1 => Rd.loads hx ty65 hx18 hb1)) rfl ?_
     refine ql_r (r_move rfl) rfl ?_
     refine ql_r (r_move rfl) rfl ?_
     refine ql_ixr hy rfl rfl sl60 (by omega) rfl fun x22 hx22 => ?_
     try simp only [Int.toNat_natCast] at hx22
     have h22 : x22 = x18 := by rw [hx18] at hx22; cases hx22; rfl
     subst h22
     refine ql_r (r_ldw rfl (fun w1 hb1 hs1 hB1 => Rd.loads hy ty65 hx22 hb1)) rfl ?_
     refine ql_r (r_nes rfl rfl (by kernel_rfl) (fun w => run_eqs (by kernel_rfl) (by kernel_rfl) w)) rfl ?_
     refine ql_nil (to_k0 (fun _ _ h => h) (hK12 _ _ _ _ _ ?_))
     clear hK12
     first | refine wp_condD rfl (fun hc24 => ?_) (fun hc24 => ?_) | refine wp_condN rfl (fun hc24 => ?_) (fun hc24 => ?_) | refine wp_condNB rfl (fun hc24 => ?_) (fun hc24 => ?_) | refine wp_cond' rfl (fun hc24 => ?_) (fun hc24 => ?_)
     ·refine wp_seq' fun K13 hK13 => ?_
      refine wp_reg ?_
      refine ol_r (r_assign rfl) rfl ?_
      refine ol_nil (to_k0 (fun _ _ h => h) (hK13 _ _ _ _ _ ?_))
      clear hK13
      refine hQ.ret (rvs1 (rv_t rfl)) (fun _ _ h => h) fun w hb hs hB hkd => ?_
      first
        | exact ⟨rfl, hb⟩
        | (exfalso; simp_all; done)
        | (exfalso; simp_all [eqs, eqV, encSplit]; done)
     ·refine wp_skip' (to_k0 (fun _ _ h => h) (hK10 _ _ _ _ _ ?_))
      clear hK10
      refine wp_reg ?_
      refine ol_r (r_add rfl rfl (by omega)) rfl ?_
      refine ol_r (r_move rfl) rfl ?_
      refine ol_nil (to_k0 (fun _ _ h => h) (hK7 (k + 1) _ _ ?_ ?_ (sub_cons rfl sub_nil) (sub_cons rfl (sub_cons rfl (sub_cons rfl sub_nil))) (by exact subH_nil) subH_nil))
      ·try dsimp only
       omega
      ·try dsimp only
       omega
    ·refine wp_exit' (to_k0 (fun _ _ h => h) (hK5 _ _ _ _ _ ?_))
     clear hK5
     refine wp_seq' fun K14 hK14 => ?_
     refine wp_reg ?_
     refine ol_r (r_assign rfl) rfl ?_
     refine ol_nil (to_k0 (fun _ _ h => h) (hK14 _ _ _ _ _ ?_))
     clear hK14
     refine hQ.ret (rvs1 (rv_t rfl)) (fun _ _ h => h) fun w hb hs hB hkd => ?_
     first
       | exact ⟨rfl, hb⟩
       | (exfalso; simp_all; done)
       | (exfalso; simp_all [eqs, eqV, encSplit]; done)
theorem spN_zero (ss : List SmpR) (way : Int) : spN ss way 0 = 0 := by simp [spN, wayN_zero]
theorem spl_row {ss : List SmpR} {way d v : Int} {k m : Nat} {p q : SmpR} (hp : ss[k]? = some p) (hq : ss[k + 1]? = some q) (hd : d = (((spN ss way k + m : Nat) : Int) + 1) * way)
    (hv : v = 1000 * p.at_ + upD ((d - wayN ss k) * (1000 * (q.at_ - p.at_))) (wayN ss (k + 1) - wayN ss k)) : encSplit.enc (midK ss way k (m + 1)) = encSplit.enc (midK ss way k m) ++ [.int .i64 d, .int .i64 v] := by
  subst hv
  subst hd
  rw [midK_succ, Enc.enc_append, splJ_eq hp hq]
  simp [Enc.enc, encSplit]
/-- What is known of a split that is to come. -/
theorem split_args {ss : List SmpR} {way st d : Int} (hok : SmpOk st ss) (hw : 1 ≤ way) {k m : Nat} {p q : SmpR} (hp : ss[k]? = some p) (hq : ss[k + 1]? = some q) (hd : d = (((spN ss way k + m : Nat) : Int) + 1) * way) (hle : d ≤ wayN ss (k + 1)) :
    spN ss way k + m < spN ss way (k + 1) ∧ 1 ≤ d - wayN ss k ∧ d - wayN ss k ≤ 300000000 ∧ 1 ≤ wayN ss (k + 1) - wayN ss k ∧ wayN ss (k + 1) - wayN ss k ≤ 300000000 ∧ 0 ≤ 1000 * (q.at_ - p.at_) ∧ 1000 * (q.at_ - p.at_) ≤ 1000000000 ∧
    0 ≤ (d - wayN ss k) * (1000 * (q.at_ - p.at_)) ∧ (d - wayN ss k) * (1000 * (q.at_ - p.at_)) ≤ 1000000000000000000 ∧
    0 ≤ upD ((d - wayN ss k) * (1000 * (q.at_ - p.at_))) (wayN ss (k + 1) - wayN ss k) ∧ upD ((d - wayN ss k) * (1000 * (q.at_ - p.at_))) (wayN ss (k + 1) - wayN ss k) ≤ 1000000000 ∧ 0 ≤ p.at_ ∧ p.at_ ≤ 1000000 := by
  subst hd
  have h1 := (spN_cond hok hw (k + 1) _).1 hle
  have h2 := split_bd hok hw hp hq (j := spN ss way k + m) (by omega) h1
  have h3 := atI_le hok hp hq
  have h4 := mul_bd (a := (((spN ss way k + m : Nat) : Int) + 1) * way - wayN ss k) (b := 1000 * (q.at_ - p.at_)) (by omega) (show _ ≤ 300000000 by omega) (by omega) (show _ ≤ 1000000000 by omega)
  omega
theorem spN_bd {ss : List SmpR} {way st : Int} (hok : SmpOk st ss) (hw : 1 ≤ way) (k : Nat) : 0 ≤ (spN ss way k : Int) * way ∧ (spN ss way k : Int) * way ≤ wayN ss k ∧ (spN ss way k : Int) ≤ wayN ss k := by
  have h1 := spN_eq hok hw k
  have h2 := wayN_bd hok k
  have h3 := Int.ediv_mul_le (wayN ss k) (show way ≠ 0 by omega)
  have h4 : wayN ss k / way ≤ wayN ss k := Int.ediv_le_self _ h2.1
  rw [h1]
  exact ⟨Int.mul_nonneg (Int.ediv_nonneg h2.1 (by omega)) (by omega), h3, h4⟩
theorem next_d {d way : Int} {a m : Nat} (h : d = (((a + m : Nat) : Int) + 1) * way) : d + way = (((a + (m + 1) : Nat) : Int) + 1) * way := by
  have h2 : ∀ z : Int, z * way + way = (z + 1) * way := fun z => by rw [Int.add_mul, Int.one_mul]
  rw [h, h2]
  congr 1
theorem track_Splits (A : ActV) (way : Int) (w : World) (hA : A.Ok w.heap.size w) :
    Calls Try.prog 31 #[.agg #[.string A.name, .int .i64 A.sport, .int .i64 A.start, .slice A.sa A.sn A.sc, .slice A.la A.ln A.lc, .slice A.ta A.tn A.tc], .int .i64 way] w fun e w' => ∃ b m k, e = .returned (.tuple #[.slice b m k, .int .i64 (splitsR A.d way).2]) ∧ Fresh encSplit 65 w w' b m k (splitsR A.d way).1 := by
  have hsn := hA.s.len
  have hsf := hA.s.fit
  have hlen := stepsL_len A.ss
  have hwl := wayL_len A.ss
  refine enterQ (N := 93) (C := fun _ => True) (H := []) (B := w.heap.size) (args := [_, _]) Try.func31 rfl rfl rfl (Nat.le_refl _) (Sat.nil _ _) fun Q hQ => ?_
  refine wp_seq' fun K1 hK1 => ?_
  refine wp_reg ?_
  refine ol_box 2 rfl rfl rfl fun b2 => ?_
  refine ol_box 3 rfl rfl rfl fun b3 => ?_
  refine ol_r (r_assign rfl) rfl ?_
  refine ol_r (r_assign rfl) rfl ?_
  refine ol_nil (to_k0 (fun _ _ h => h) (hK1 _ _ _ _ _ ?_))
  clear hK1
  refine wp_seq' fun K2 hK2 => ?_
  refine wp_seq' fun K3 hK3 => ?_
  refine wp_reg ?_
  refine ol_r (r_lda (id := 2) (n := 6) rfl rfl rfl ag26) rfl ?_
  refine ol_call rfl rfl cb36 rfl (fun w1 hb1 hs1 hB1 => Calls.mono (record_Check A _ (hA.at hb1 hB1)) ?_)
  rintro e w2 ⟨rfl, hb2⟩
  refine After.below rfl hb1 hs1 hB1 hb2 ?_
  clear hb2 hB1 hs1 hb1 w2 w1
  refine ol_r (r_assign rfl) rfl ?_
  refine ol_nil (to_k0 (fun _ _ h => h) (hK3 _ _ _ _ _ ?_))
  clear hK3
  refine wp_seq' fun K4 hK4 => ?_
  refine wp_reg ?_
  refine ol_r (r_move rfl) rfl ?_
  refine ol_r (r_neq rfl rfl) rfl ?_
  refine ol_nil (to_k0 (fun _ _ h => h) (hK4 _ _ _ _ _ ?_))
  clear hK4
  first | refine wp_condD rfl (fun hc18 => ?_) (fun hc18 => ?_) | refine wp_condN rfl (fun hc18 => ?_) (fun hc18 => ?_) | refine wp_condNB rfl (fun hc18 => ?_) (fun hc18 => ?_) | refine wp_cond' rfl (fun hc18 => ?_) (fun hc18 => ?_)
  ·refine wp_seq' fun K5 hK5 => ?_
   refine wp_reg ?_
   refine ol_r (r_move rfl) rfl ?_
   refine ol_r (r_assign rfl) rfl ?_
   refine ol_r (r_assign rfl) rfl ?_
   refine ol_nil (to_k0 (fun _ _ h => h) (hK5 _ _ _ _ _ ?_))
   clear hK5
   refine hQ.ret (rvs2 (rv_t rfl) (rv_t rfl)) (fun _ _ h => h) fun w hb hs hB hkd => ?_
   have h := splitsR_e (f := way) hc18
   exact ⟨none, 0, 0, by rw [h], by rw [h]; exact Fresh.nil hb⟩
  ·refine wp_skip' (to_k0 (fun _ _ h => h) (hK2 _ _ _ _ _ ?_))
   clear hK2
   refine wp_seq' fun K6 hK6 => ?_
   refine wp_seq' fun K7 hK7 => ?_
   refine wp_reg ?_
   refine ol_r (r_ld (id := 3) rfl rfl rfl sc3) rfl ?_
   refine ol_call rfl rfl cb37 rfl (fun w1 hb1 hs1 hB1 => Calls.mono (track_in _ _ _ _) ?_)
   rintro e w2 ⟨rfl, hb2⟩
   refine After.below rfl hb1 hs1 hB1 hb2 ?_
   clear hb2 hB1 hs1 hb1 w2 w1
   refine ol_r (r_not rfl) rfl ?_
   refine ol_nil (to_k0 (fun _ _ h => h) (hK7 _ _ _ _ _ ?_))
   clear hK7
   first | refine wp_condD rfl (fun hc22 => ?_) (fun hc22 => ?_) | refine wp_condN rfl (fun hc22 => ?_) (fun hc22 => ?_) | refine wp_condNB rfl (fun hc22 => ?_) (fun hc22 => ?_) | refine wp_cond' rfl (fun hc22 => ?_) (fun hc22 => ?_)
   ·refine wp_seq' fun K8 hK8 => ?_
    refine wp_reg ?_
    refine ol_r (r_assign rfl) rfl ?_
    refine ol_r (r_assign rfl) rfl ?_
    refine ol_nil (to_k0 (fun _ _ h => h) (hK8 _ _ _ _ _ ?_))
    clear hK8
    refine hQ.ret (rvs2 (rv_t rfl) (rv_t rfl)) (fun _ _ h => h) fun w hb hs hB hkd => ?_
    have h := splitsR_9 (f := way) (Decidable.not_not.1 hc18) (fun h => by have := inB_iff.2 h; rw [this] at hc22; cases hc22)
    exact ⟨none, 0, 0, by rw [h], by rw [h]; exact Fresh.nil hb⟩
   ·refine wp_skip' (to_k0 (fun _ _ h => h) (hK6 _ _ _ _ _ ?_))
    clear hK6
    refine wp_seq' fun K9 hK9 => ?_
    refine wp_reg ?_
    have h0 : chkA A.d = 0 := Decidable.not_not.1 hc18
    have hok : SmpOk A.start A.ss := (goodA h0).smp
    have hl20 := hok.len
    have hin : 1 ≤ way ∧ way ≤ 1000000000 := inB_iff.1 (by simpa using hc22)
    refine ol_r (r_lda (id := 2) (n := 6) rfl rfl rfl ag26) rfl ?_
    refine ol_call rfl rfl cb48 rfl (fun w1 hb1 hs1 hB1 => Calls.mono (track_ways A _ (hA.at hb1 hB1) hok) ?_)
    rintro e w2 ⟨a24, n24, c24, rfl, hf24⟩
    refine After.fresh (id := 24) rfl hb1 hs1 hB1 hf24 ?_
    have hl24 := hf24.len; clear hf24 hB1 hs1 hb1 w2 w1
    refine ol_alloc 7 z34 rfl fun b7 => ?_
    refine ol_store (id := 7) rfl rfl rfl rfl sz34 rfl rfl (by first | decide | exact Nat.zero_lt_succ _ | simp) ?_
    refine ol_nil (to_k0 (fun _ _ h => h) (hK9 _ _ _ _ _ ?_))
    clear hK9
    refine wp_seq' fun K10 hK10 => ?_
    refine wp_seq' fun K11 hK11 => ?_
    refine wp_regq (by kernel_rfl) (by kernel_rfl) ?_
    refine ql_r (r_ld (id := 7) rfl rfl rfl sc34) rfl ?_
    refine ql_r (r_len rfl sl34) rfl ?_
    refine ql_r (r_gtr rfl rfl) rfl ?_
    refine ql_r (r_move rfl) rfl ?_
    refine ql_split (d := 28) rfl (fun hs28 => ?_) (fun hs28 => ?_)
    ·have phs28 := hs28; try simp only [decide_eq_true_eq, decide_eq_false_iff_not, Bool.not_eq_true', Bool.not_eq_false', Bool.not_true, Bool.not_false] at phs28
     refine ql_g rfl rfl hs28 ?_
     refine ql_r (r_ld (id := 7) rfl rfl rfl sc34) rfl ?_
     refine ql_g rfl rfl hs28 ?_
     refine ql_r (r_ld (id := 7) rfl rfl rfl sc34) rfl ?_
     refine ql_g rfl rfl hs28 ?_
     refine ql_r (r_len rfl sl34) rfl ?_
     refine ql_g rfl rfl hs28 ?_
     refine ql_r (r_sub rfl rfl (by omega)) rfl ?_
     refine ql_g rfl rfl hs28 ?_
     refine ql_ixo (id := 24) encI _ rfl rfl rfl rfl sl34 (by omega) (by omega) rfl fun x33 hx33 => ?_
     try simp only [Int.toNat_natCast] at hx33
     try simp only [Int.toNat_natCast] at hx33
     refine ql_g rfl rfl hs28 ?_
     refine ql_r (r_ldw rfl (fun w1 hb1 hs1 hB1 => show Loads _ _ _ _ (.int .i64 x33) from ld_own (id := 24) hs1 rfl rfl ty3 hx33)) rfl ?_
     refine ql_g rfl rfl hs28 ?_
     refine ql_r (r_ld (id := 3) rfl rfl rfl sc3) rfl ?_
     refine ql_g rfl rfl hs28 ?_
     have h33 := runW_get hx33
     rw [show ((n24 : Int) - 1).toNat = A.ss.length - 1 by omega] at h33
     have hb33 := wayN_bd hok (A.ss.length - 1)
     first | refine ql_r (r_quo rfl rfl (by omega)) rfl ?_ | refine ql_r (r_tquo rfl rfl (by omega)) rfl ?_
     refine ql_g rfl rfl hs28 ?_
     refine ql_r (r_gtr rfl rfl) rfl ?_
     refine ql_r (r_pickT rfl hs28 rfl) rfl ?_
     refine ql_nil (to_k0 (fun _ _ h => h) (hK11 _ _ _ _ _ ?_))
     clear hK11
     first | refine wp_condD rfl (fun hc38 => ?_) (fun hc38 => ?_) | refine wp_condN rfl (fun hc38 => ?_) (fun hc38 => ?_) | refine wp_condNB rfl (fun hc38 => ?_) (fun hc38 => ?_) | refine wp_cond' rfl (fun hc38 => ?_) (fun hc38 => ?_)
     ·refine wp_seq' fun K12 hK12 => ?_
      refine wp_reg ?_
      refine ol_r (r_assign rfl) rfl ?_
      refine ol_r (r_assign rfl) rfl ?_
      refine ol_nil (to_k0 (fun _ _ h => h) (hK12 _ _ _ _ _ ?_))
      clear hK12
      refine hQ.ret (rvs2 (rv_t rfl) (rv_t rfl)) (fun _ _ h => h) fun w hb hs hB hkd => ?_
      have h := splitsR_3 (a := A.d) h0 hin (by show 10000 < wayN A.ss (A.ss.length - 1) / way; rw [← h33]; exact hc38)
      exact ⟨none, 0, 0, by rw [h], by rw [h]; exact Fresh.nil hb⟩
     ·refine wp_skip' (to_k0 (fun _ _ h => h) (hK10 _ _ _ _ _ ?_))
      clear hK10
      refine wp_seq' fun K13 hK13 => ?_
      refine wp_reg ?_
      have hno : ¬10000 < wayN A.ss (A.ss.length - 1) / way := by
        first
          | (rw [← h33]; exact hc38)
          | (rw [show A.ss.length - 1 = 0 by omega, wayN_zero]; simp)
      refine ol_alloc 8 z60 rfl fun b8 => ?_
      refine ol_nilrow 3008 65 2 ?_
      refine ol_nil (to_k0 (fun _ _ h => h) (hK13 _ _ _ _ _ ?_))
      clear hK13
      refine wp_seq' fun K14 hK14 => ?_
      refine wp_reg ?_
      refine ol_alloc 9 z3 rfl fun b9 => ?_
      refine ol_store (id := 9) rfl rfl rfl rfl sz3 rfl rfl (by first | decide | exact Nat.zero_lt_succ _ | simp) ?_
      refine ol_nil (to_k0 (fun _ _ h => h) (hK14 _ _ _ _ _ ?_))
      clear hK14
      refine wp_seq' fun K15 hK15 => ?_
      refine wp_reg ?_
      refine ol_r (r_ld (id := 3) rfl rfl rfl sc3) rfl ?_
      refine ol_alloc 10 z3 rfl fun b10 => ?_
      refine ol_store (id := 10) rfl rfl rfl rfl sz3 rfl rfl (by first | decide | exact Nat.zero_lt_succ _ | simp) ?_
      refine ol_nil (to_k0 (fun _ _ h => h) (hK15 _ _ _ _ _ ?_))
      clear hK15
      refine wp_seq' fun K16 hK16 => ?_
      refine wp_seq' fun K17 hK17 => ?_
      refine wp_reg ?_
      refine ol_r (r_lda (id := 2) (n := 6) rfl rfl rfl ag26) rfl ?_
      refine ol_call rfl rfl cb65 rfl (fun w1 hb1 hs1 hB1 => ?_)
      refine Calls.mono (track_Steps A _ (hA.at hb1 hB1)) ?_
      rintro e w2 ⟨b0, T0, rfl, hb2, hs2⟩
      refine After.more rfl hb1 hs1 hB1 hb2 hs2 ?_
      clear hs2 hb2 hB1 hs1 hb1 w2 w1
      refine ol_nil (to_k0 (fun _ _ h => h) (hK17 _ _ _ _ _ ?_))
      clear hK17
      refine wp_block' ?_
      refine wp_rf (σ := Option Addr × Nat × Nat × Int) (τ := Unit) (encs := fun x : SmpR × SmpR => [.agg #[.int .i64 x.1.at_, .int .i64 x.1.x, .int .i64 x.1.y, .int .i64 x.1.z, .int .i64 x.1.pulse, .int .i64 x.1.power, .int .i64 x.1.steps], .agg #[.int .i64 x.2.at_, .int .i64 x.2.x, .int .i64 x.2.y, .int .i64 x.2.z, .int .i64 x.2.pulse, .int .i64 x.2.power, .int .i64 x.2.steps]]) (zs := stepsL A.ss) rfl cb85 (steps_iter A _ b0 _ hA.s) (by rfl) (by rfl) (by rfl) (fun _ => rfl) (fun k s => k ≤ (stepsL A.ss).length ∧ s.2.2.1 = spN A.ss way k ∧ s.2.2.2 = ((s.2.2.1 : Int) + 1) * way) (fun k s => [(8, .blk b8 [(0, .slice s.1 s.2.2.1 s.2.1)] 60), (3008, .row s.1 s.2.2.1 s.2.1 (encSplit.enc (splK A.ss way k)) 65 2), (9, .blk b9 [(0, .int .i64 k)] 3), (10, .blk b10 [(0, .int .i64 s.2.2.2)] 3)]) [(2, _), (3, _), (7, _), (24, _), (1001, _)] (fun t => False) (fun t => []) ((none, 0, 0, way)) ?_ (by exact (subH_blk rfl (sub_cons rfl sub_nil) (subH_row rfl (by first | (dsimp only; rfl; done) | (rfl; done) | (dsimp only; done)) (subH_blk rfl (sub_cons rfl sub_nil) (subH_blk rfl (sub_cons rfl sub_nil) subH_nil))))) (subH_same rfl (subH_same rfl (subH_same rfl (subH_same rfl (subH_same rfl subH_nil))))) ?_ ?_ ?_ ?_
      ·try dsimp only
       exact ⟨by omega, (spN_zero _ _).symm, by omega⟩
      ·intro k s W hI hbW hsW hBW
       exact ⟨hbW, ⟨_, hsW.one 1001 100 rfl (Ent.le_refl _)⟩, hBW⟩
      ·rintro k x ⟨oa, oc, cnt, d⟩ B0 W hx hI hbW hBW hB0
       have hxx := stepsL_inv hx
       have hxk := (List.getElem?_eq_some_iff.1 hx).1
       dsimp only at hI ⊢
       obtain ⟨hkl, hcnt, hd⟩ := hI
       subst hcnt
       have hwb := wayN_bd hok (k + 1)
       have hwb0 := wayN_bd hok k
       have e1 : ((k : Int) + 1).toNat = k + 1 := by omega
       intro Ka18 hKa18
       simp only [alp]
       refine wp_seq' fun K19 hK19 => ?_
       refine wp_reg ?_
       refine ol_alloc 11 z36 rfl fun b11 => ?_
       refine ol_store (id := 11) rfl rfl rfl rfl sz36 rfl rfl (by first | decide | exact Nat.zero_lt_succ _ | simp) ?_
       refine ol_nil (to_k0 (fun _ _ h => h) (hK19 _ _ _ _ _ ?_))
       clear hK19
       refine wp_reg ?_
       refine ol_alloc 12 z36 rfl fun b12 => ?_
       refine ol_store (id := 12) rfl rfl rfl rfl sz36 rfl rfl (by first | decide | exact Nat.zero_lt_succ _ | simp) ?_
       refine ol_nil (to_k0 (fun _ _ h => h) (hKa18 _ _ fun Wb R hbw hBw hn hr => ?_))
       refine wp_block' ?_
       refine wp_seq' fun K20 hK20 => ?_
       refine wp_block' ?_
       apply wp_loopM (σ := Nat × Option Addr × Nat × Int) (fun s => spN A.ss way k + s.1 ≤ spN A.ss way (k + 1) ∧ s.2.2.2 = (((spN A.ss way k + s.1 : Nat) : Int) + 1) * way) (fun s => []) [(3, _), (4, _), (5, _), (7, _), (8, _), (9, _), (10, _), (11, _), (12, _)] (fun s => [(8, .blk b8 [(0, .slice s.2.1 (spN A.ss way k + s.1) s.2.2.1)] 60), (3008, .row s.2.1 (spN A.ss way k + s.1) s.2.2.1 (encSplit.enc (midK A.ss way k s.1)) 65 2), (10, .blk b10 [(0, .int .i64 s.2.2.2)] 3)]) [(2, _), (3, _), (7, _), (9, _), (11, _), (12, _), (24, _), (1001, _)] (fun s => spN A.ss way (k + 1) - (spN A.ss way k + s.1)) ((0, oa, oc, d))
       ·try dsimp only
        exact ⟨by have := spN_mono hok hin.1 (show k ≤ k + 1 by omega); omega, hd⟩
       ·exact sub_nil
       ·exact (sub_cons rfl (sub_cons rfl (sub_cons rfl (sub_cons rfl (sub_cons rfl (sub_cons rfl (sub_cons rfl (sub_cons rfl (sub_cons rfl sub_nil)))))))))
       ·exact (subH_blk rfl (sub_cons rfl sub_nil) (subH_row rfl (by first | (dsimp only; rw [midK_zero]; done) | (rw [midK_zero]; done) | (dsimp only; done)) (subH_blk rfl (sub_cons rfl sub_nil) subH_nil)))
       ·exact (subH_same rfl (subH_same rfl (subH_same rfl (subH_same rfl (subH_same rfl (subH_same rfl (subH_same rfl (subH_same rfl subH_nil))))))))
       ·rintro ⟨m, oa, oc, d⟩ ⟨hm, hd⟩
        dsimp only at hm hd ⊢
        intro K21 hK21
        refine wp_seq' fun K22 hK22 => ?_
        refine wp_seq' fun K23 hK23 => ?_
        refine wp_regq (by kernel_rfl) (by kernel_rfl) ?_
        refine ql_r (r_ld (id := 10) rfl rfl rfl sc3) rfl ?_
        refine ql_r (r_ld (id := 7) rfl rfl rfl sc34) rfl ?_
        refine ql_r (r_ld (id := 9) rfl rfl rfl sc3) rfl ?_
        refine ql_r (r_add rfl rfl (by omega)) rfl ?_
        refine ql_ixo (id := 24) encI _ rfl rfl rfl rfl sl34 (by omega) (by omega) rfl fun x48 hx48 => ?_
        try simp only [Int.toNat_natCast] at hx48
        try simp only [Int.toNat_natCast] at hx48
        rw [e1] at hx48
        have h48 := runW_get hx48
        refine ql_r (r_ldw rfl (fun w1 hb1 hs1 hB1 => show Loads _ _ _ _ (.int .i64 x48) from ld_own (id := 24) hs1 rfl rfl ty3 hx48)) rfl ?_
        refine ql_r (r_leq rfl rfl) rfl ?_
        refine ql_nil (to_k0 (fun _ _ h => h) (hK23 _ _ _ _ _ ?_))
        clear hK23
        first | refine wp_condD rfl (fun hc50 => ?_) (fun hc50 => ?_) | refine wp_condN rfl (fun hc50 => ?_) (fun hc50 => ?_) | refine wp_condNB rfl (fun hc50 => ?_) (fun hc50 => ?_) | refine wp_cond' rfl (fun hc50 => ?_) (fun hc50 => ?_)
        ·refine wp_skip' (to_k0 (fun _ _ h => h) (hK22 _ _ _ _ _ ?_))
         clear hK22
         refine wp_seq' fun K24 hK24 => ?_
         refine wp_block' ?_
         refine wp_seq' fun K25 hK25 => ?_
         refine wp_regq (by kernel_rfl) (by kernel_rfl) ?_
         refine ql_r (r_ld (id := 10) rfl rfl rfl sc3) rfl ?_
         refine ql_r (r_ld (id := 7) rfl rfl rfl sc34) rfl ?_
         refine ql_r (r_ld (id := 9) rfl rfl rfl sc3) rfl ?_
         refine ql_ixo (id := 24) encI _ rfl rfl rfl rfl sl34 (by omega) (by omega) rfl fun x58 hx58 => ?_
         try simp only [Int.toNat_natCast] at hx58
         try simp only [Int.toNat_natCast] at hx58
         have hargs := split_args hok hin.1 hxx.1 hxx.2 hd (by omega)
         have h58 := runW_get hx58
         have hsb := spN_bd hok hin.1 (k + 1)
         refine ql_r (r_ldw rfl (fun w1 hb1 hs1 hB1 => show Loads _ _ _ _ (.int .i64 x58) from ld_own (id := 24) hs1 rfl rfl ty3 hx58)) rfl ?_
         refine ql_r (r_sub rfl rfl (by omega)) rfl ?_
         refine ql_r (r_fa (o' := 0) rfl fl36_0 rfl) rfl ?_
         refine ql_r (r_ld (id := 12) rfl rfl rfl sc3) rfl ?_
         refine ql_r (r_fa (o' := 0) rfl fl36_0 rfl) rfl ?_
         refine ql_r (r_ld (id := 11) rfl rfl rfl sc3) rfl ?_
         refine ql_r (r_sub rfl rfl (by omega)) rfl ?_
         refine ql_r (r_mul rfl rfl (by omega)) rfl ?_
         refine ql_r (r_ld (id := 7) rfl rfl rfl sc34) rfl ?_
         refine ql_r (r_ld (id := 9) rfl rfl rfl sc3) rfl ?_
         refine ql_r (r_add rfl rfl (by omega)) rfl ?_
         refine ql_ixo (id := 24) encI _ rfl rfl rfl rfl sl34 (by omega) (by omega) rfl fun x70 hx70 => ?_
         try simp only [Int.toNat_natCast] at hx70
         try simp only [Int.toNat_natCast] at hx70
         rw [e1] at hx70
         have h70 := runW_get hx70
         refine ql_r (r_ldw rfl (fun w1 hb1 hs1 hB1 => show Loads _ _ _ _ (.int .i64 x70) from ld_own (id := 24) hs1 rfl rfl ty3 hx70)) rfl ?_
         refine ql_r (r_ld (id := 7) rfl rfl rfl sc34) rfl ?_
         refine ql_r (r_ld (id := 9) rfl rfl rfl sc3) rfl ?_
         refine ql_ixo (id := 24) encI _ rfl rfl rfl rfl sl34 (by omega) (by omega) rfl fun x74 hx74 => ?_
         try simp only [Int.toNat_natCast] at hx74
         try simp only [Int.toNat_natCast] at hx74
         refine ql_r (r_ldw rfl (fun w1 hb1 hs1 hB1 => show Loads _ _ _ _ (.int .i64 x74) from ld_own (id := 24) hs1 rfl rfl ty3 hx74)) rfl ?_
         have h74 := runW_get hx74
         refine ql_r (r_sub rfl rfl (by omega)) rfl ?_
         refine ql_call rfl rfl cb66 rfl (fun w1 hb1 hs1 hB1 => quant_ScaleUp _ _ _ _ (by omega) (by omega) (by omega) (by rw [h58]; omega)) ?_
         refine ql_r (r_move rfl) rfl ?_
         refine ql_r (r_extract rfl rfl) rfl ?_
         refine ql_r (r_extract rfl rfl) rfl ?_
         refine ql_r (r_assign rfl) rfl ?_
         refine ql_r (r_assign rfl) rfl ?_
         refine ql_nil (to_k0 (fun _ _ h => h) (hK25 _ _ _ _ _ ?_))
         clear hK25
         refine wp_reg ?_
         simp only [h58, h70, h74]
         refine ol_r (r_ld (id := 8) rfl rfl rfl sc60) rfl ?_
         refine ol_r (r_ld (id := 10) rfl rfl rfl sc3) rfl ?_
         refine ol_r (r_fa (o' := 0) rfl fl36_0 rfl) rfl ?_
         refine ol_r (r_ld (id := 11) rfl rfl rfl sc3) rfl ?_
         refine ol_r (r_mul rfl rfl (by omega)) rfl ?_
         refine ol_r (r_move rfl) rfl ?_
         refine ol_r (r_add rfl rfl (by omega)) rfl ?_
         refine ol_r (r_build rfl (fun _ => bd65_0_1 _ _ _)) rfl ?_
         refine ol_bs1 88 rfl rfl rw60 rfl rfl rfl fun a88 => ?_
         refine ol_append1 (id := 3008) (id2 := 88) rfl rfl rfl rfl rfl rw60 (by omega) rfl fun a89 c89 => ?_
         refine ol_store (id := 8) rfl rfl rfl rfl sz60 rfl rfl (by first | decide | exact Nat.zero_lt_succ _ | simp) ?_
         refine ol_nil (to_k0 (fun _ _ h => h) (hK24 _ _ _ _ _ ?_))
         clear hK24
         refine wp_reg ?_
         refine ol_r (r_ld (id := 10) rfl rfl rfl sc3) rfl ?_
         refine ol_r (r_ld (id := 3) rfl rfl rfl sc3) rfl ?_
         refine ol_r (r_add rfl rfl (by omega)) rfl ?_
         refine ol_store (id := 10) rfl rfl rfl rfl sz3 rfl rfl (by first | decide | exact Nat.zero_lt_succ _ | simp) ?_
         refine ol_nil (to_k0 (fun _ _ h => h) (hK21 ((m + 1, _, _, _)) _ _ ?_ ?_ sub_nil (sub_cons rfl (sub_cons rfl (sub_cons rfl (sub_cons rfl (sub_cons rfl (sub_cons rfl (sub_cons rfl (sub_cons rfl (sub_cons rfl sub_nil))))))))) (by exact (subH_blk rfl (sub_cons rfl sub_nil) (subH_row rfl (by first | (dsimp only; exact spl_row hxx.1 hxx.2 hd rfl; done) | (exact spl_row hxx.1 hxx.2 hd rfl; done) | (dsimp only; done)) (subH_blk rfl (sub_cons rfl sub_nil) subH_nil)))) (subH_same rfl (subH_same rfl (subH_same rfl (subH_same rfl (subH_same rfl (subH_same rfl (subH_same rfl (subH_same rfl subH_nil))))))))))
         ·try dsimp only
          exact ⟨by omega, next_d hd⟩
         ·try dsimp only
          omega
        ·refine wp_exit' (to_k0 (fun _ _ h => h) (hK20 _ _ _ _ _ ?_))
         clear hK20
         refine wp_reg ?_
         have hend : spN A.ss way k + m = spN A.ss way (k + 1) := by
           have h9 := spN_cond hok hin.1 (k + 1) (spN A.ss way k + m)
           by_cases h : spN A.ss way k + m < spN A.ss way (k + 1)
           · have := h9.2 h; omega
           · omega
         refine ol_r (r_ld (id := 9) rfl rfl rfl sc3) rfl ?_
         refine ol_r (r_add rfl rfl (by omega)) rfl ?_
         refine ol_store (id := 9) rfl rfl rfl rfl sz3 rfl rfl (by first | decide | exact Nat.zero_lt_succ _ | simp) ?_
         refine ol_nil (QP.of (hn ((_, _, _, _)) _ _ ?_ (by exact (subH_blk rfl (sub_cons rfl sub_nil) (subH_row rfl (by first | (dsimp only; first | rfl | (rw [← midK_done, show spN A.ss way (k + 1) - spN A.ss way k = m by omega]); done) | (first | rfl | (rw [← midK_done, show spN A.ss way (k + 1) - spN A.ss way k = m by omega]); done) | (dsimp only; done)) (subH_blk rfl (sub_cons rfl sub_nil) (subH_blk rfl (sub_cons rfl sub_nil) subH_nil))))) (subH_same rfl (subH_same rfl (subH_same rfl (subH_same rfl (subH_same rfl subH_nil)))))) (fun _ _ h => h))
         try dsimp only
         exact ⟨by omega, hend, hd⟩
      ·rintro s dd hI
       refine (to_k0 (fun _ _ h => h) (hK16 _ _ _ _ _ ?_))
       clear hK16
       refine wp_seq' fun K26 hK26 => ?_
       refine wp_reg ?_
       refine ol_r (r_ld (id := 8) rfl rfl rfl sc60) rfl ?_
       refine ol_r (r_assign rfl) rfl ?_
       refine ol_r (r_assign rfl) rfl ?_
       refine ol_nil (to_k0 (fun _ _ h => h) (hK26 _ _ _ _ _ ?_))
       clear hK26
       refine hQ.ret (rvs2 (rv_t rfl) (rv_t rfl)) (fun _ _ h => h) fun w hb hs hB hkd => ?_
       have h := splitsR_0 (a := A.d) h0 hin hno
       rw [h]
       refine ⟨_, _, _, rfl, hb, ?_⟩
       have h2 := hs.ok 3008 _ rfl
       rw [hlen] at h2
       exact h2
      ·exact fun t dd hI => hI.elim
    ·have phs28 := hs28; try simp only [decide_eq_true_eq, decide_eq_false_iff_not, Bool.not_eq_true', Bool.not_eq_false', Bool.not_true, Bool.not_false] at phs28
     refine ql_s rfl rfl hs28 rfl ?_
     refine ql_s rfl rfl hs28 rfl ?_
     refine ql_s rfl rfl hs28 rfl ?_
     refine ql_s rfl rfl hs28 rfl ?_
     refine ql_s rfl rfl hs28 rfl ?_
     refine ql_s rfl rfl hs28 rfl ?_
     refine ql_s rfl rfl hs28 rfl ?_
     refine ql_s rfl rfl hs28 rfl ?_
     refine ql_s rfl rfl hs28 rfl ?_
     refine ql_r (r_pickF rfl hs28 rfl) rfl ?_
     refine ql_nil (to_k0 (fun _ _ h => h) (hK11 _ _ _ _ _ ?_))
     clear hK11
     refine wp_condF rfl ?_
     refine wp_skip' (to_k0 (fun _ _ h => h) (hK10 _ _ _ _ _ ?_))
     clear hK10
     refine wp_seq' fun K27 hK27 => ?_
     refine wp_reg ?_
     have hno : ¬10000 < wayN A.ss (A.ss.length - 1) / way := by
       first
         | (rw [← h33]; exact hc38)
         | (rw [show A.ss.length - 1 = 0 by omega, wayN_zero]; simp)
     refine ol_alloc 8 z60 rfl fun b8 => ?_
     refine ol_nilrow 3008 65 2 ?_
     refine ol_nil (to_k0 (fun _ _ h => h) (hK27 _ _ _ _ _ ?_))
     clear hK27
     refine wp_seq' fun K28 hK28 => ?_
     refine wp_reg ?_
     refine ol_alloc 9 z3 rfl fun b9 => ?_
     refine ol_store (id := 9) rfl rfl rfl rfl sz3 rfl rfl (by first | decide | exact Nat.zero_lt_succ _ | simp) ?_
     refine ol_nil (to_k0 (fun _ _ h => h) (hK28 _ _ _ _ _ ?_))
     clear hK28
     refine wp_seq' fun K29 hK29 => ?_
     refine wp_reg ?_
     refine ol_r (r_ld (id := 3) rfl rfl rfl sc3) rfl ?_
     refine ol_alloc 10 z3 rfl fun b10 => ?_
     refine ol_store (id := 10) rfl rfl rfl rfl sz3 rfl rfl (by first | decide | exact Nat.zero_lt_succ _ | simp) ?_
     refine ol_nil (to_k0 (fun _ _ h => h) (hK29 _ _ _ _ _ ?_))
     clear hK29
     refine wp_seq' fun K30 hK30 => ?_
     refine wp_seq' fun K31 hK31 => ?_
     refine wp_reg ?_
     refine ol_r (r_lda (id := 2) (n := 6) rfl rfl rfl ag26) rfl ?_
     refine ol_call rfl rfl cb65 rfl (fun w1 hb1 hs1 hB1 => ?_)
     refine Calls.mono (track_Steps A _ (hA.at hb1 hB1)) ?_
     rintro e w2 ⟨b0, T0, rfl, hb2, hs2⟩
     refine After.more rfl hb1 hs1 hB1 hb2 hs2 ?_
     clear hs2 hb2 hB1 hs1 hb1 w2 w1
     refine ol_nil (to_k0 (fun _ _ h => h) (hK31 _ _ _ _ _ ?_))
     clear hK31
     refine wp_block' ?_
     refine wp_rf (σ := Option Addr × Nat × Nat × Int) (τ := Unit) (encs := fun x : SmpR × SmpR => [.agg #[.int .i64 x.1.at_, .int .i64 x.1.x, .int .i64 x.1.y, .int .i64 x.1.z, .int .i64 x.1.pulse, .int .i64 x.1.power, .int .i64 x.1.steps], .agg #[.int .i64 x.2.at_, .int .i64 x.2.x, .int .i64 x.2.y, .int .i64 x.2.z, .int .i64 x.2.pulse, .int .i64 x.2.power, .int .i64 x.2.steps]]) (zs := stepsL A.ss) rfl cb85 (steps_iter A _ b0 _ hA.s) (by rfl) (by rfl) (by rfl) (fun _ => rfl) (fun k s => k ≤ (stepsL A.ss).length ∧ s.2.2.1 = spN A.ss way k ∧ s.2.2.2 = ((s.2.2.1 : Int) + 1) * way) (fun k s => [(8, .blk b8 [(0, .slice s.1 s.2.2.1 s.2.1)] 60), (3008, .row s.1 s.2.2.1 s.2.1 (encSplit.enc (splK A.ss way k)) 65 2), (9, .blk b9 [(0, .int .i64 k)] 3), (10, .blk b10 [(0, .int .i64 s.2.2.2)] 3)]) [(2, _), (3, _), (7, _), (24, _), (1001, _)] (fun t => False) (fun t => []) ((none, 0, 0, way)) ?_ (by exact (subH_blk rfl (sub_cons rfl sub_nil) (subH_row rfl (by first | (dsimp only; rfl; done) | (rfl; done) | (dsimp only; done)) (subH_blk rfl (sub_cons rfl sub_nil) (subH_blk rfl (sub_cons rfl sub_nil) subH_nil))))) (subH_same rfl (subH_same rfl (subH_same rfl (subH_same rfl (subH_same rfl subH_nil))))) ?_ ?_ ?_ ?_
     ·try dsimp only
      exact ⟨by omega, (spN_zero _ _).symm, by omega⟩
     ·intro k s W hI hbW hsW hBW
      exact ⟨hbW, ⟨_, hsW.one 1001 100 rfl (Ent.le_refl _)⟩, hBW⟩
     ·rintro k x ⟨oa, oc, cnt, d⟩ B0 W hx hI hbW hBW hB0
      have hxx := stepsL_inv hx
      have hxk := (List.getElem?_eq_some_iff.1 hx).1
      dsimp only at hI ⊢
      obtain ⟨hkl, hcnt, hd⟩ := hI
      subst hcnt
      have hwb := wayN_bd hok (k + 1)
      have hwb0 := wayN_bd hok k
      have e1 : ((k : Int) + 1).toNat = k + 1 := by omega
      intro Ka32 hKa32
      simp only [alp]
      refine wp_seq' fun K33 hK33 => ?_
      refine wp_reg ?_
      refine ol_alloc 11 z36 rfl fun b11 => ?_
      refine ol_store (id := 11) rfl rfl rfl rfl sz36 rfl rfl (by first | decide | exact Nat.zero_lt_succ _ | simp) ?_
      refine ol_nil (to_k0 (fun _ _ h => h) (hK33 _ _ _ _ _ ?_))
      clear hK33
      refine wp_reg ?_
      refine ol_alloc 12 z36 rfl fun b12 => ?_
      refine ol_store (id := 12) rfl rfl rfl rfl sz36 rfl rfl (by first | decide | exact Nat.zero_lt_succ _ | simp) ?_
      refine ol_nil (to_k0 (fun _ _ h => h) (hKa32 _ _ fun Wb R hbw hBw hn hr => ?_))
      refine wp_block' ?_
      refine wp_seq' fun K34 hK34 => ?_
      refine wp_block' ?_
      apply wp_loopM (σ := Nat × Option Addr × Nat × Int) (fun s => spN A.ss way k + s.1 ≤ spN A.ss way (k + 1) ∧ s.2.2.2 = (((spN A.ss way k + s.1 : Nat) : Int) + 1) * way) (fun s => []) [(3, _), (4, _), (5, _), (7, _), (8, _), (9, _), (10, _), (11, _), (12, _)] (fun s => [(8, .blk b8 [(0, .slice s.2.1 (spN A.ss way k + s.1) s.2.2.1)] 60), (3008, .row s.2.1 (spN A.ss way k + s.1) s.2.2.1 (encSplit.enc (midK A.ss way k s.1)) 65 2), (10, .blk b10 [(0, .int .i64 s.2.2.2)] 3)]) [(2, _), (3, _), (7, _), (9, _), (11, _), (12, _), (24, _), (1001, _)] (fun s => spN A.ss way (k + 1) - (spN A.ss way k + s.1)) ((0, oa, oc, d))
      ·try dsimp only
       exact ⟨by have := spN_mono hok hin.1 (show k ≤ k + 1 by omega); omega, hd⟩
      ·exact sub_nil
      ·exact (sub_cons rfl (sub_cons rfl (sub_cons rfl (sub_cons rfl (sub_cons rfl (sub_cons rfl (sub_cons rfl (sub_cons rfl (sub_cons rfl sub_nil)))))))))
      ·exact (subH_blk rfl (sub_cons rfl sub_nil) (subH_row rfl (by first | (dsimp only; rw [midK_zero]; done) | (rw [midK_zero]; done) | (dsimp only; done)) (subH_blk rfl (sub_cons rfl sub_nil) subH_nil)))
      ·exact (subH_same rfl (subH_same rfl (subH_same rfl (subH_same rfl (subH_same rfl (subH_same rfl (subH_same rfl (subH_same rfl subH_nil))))))))
      ·rintro ⟨m, oa, oc, d⟩ ⟨hm, hd⟩
       dsimp only at hm hd ⊢
       intro K35 hK35
       refine wp_seq' fun K36 hK36 => ?_
       refine wp_seq' fun K37 hK37 => ?_
       refine wp_regq (by kernel_rfl) (by kernel_rfl) ?_
       refine ql_r (r_ld (id := 10) rfl rfl rfl sc3) rfl ?_
       refine ql_r (r_ld (id := 7) rfl rfl rfl sc34) rfl ?_
       refine ql_r (r_ld (id := 9) rfl rfl rfl sc3) rfl ?_
       refine ql_r (r_add rfl rfl (by omega)) rfl ?_
       refine ql_ixo (id := 24) encI _ rfl rfl rfl rfl sl34 (by omega) (by omega) rfl fun x48 hx48 => ?_
       try simp only [Int.toNat_natCast] at hx48
       try simp only [Int.toNat_natCast] at hx48
       rw [e1] at hx48
       have h48 := runW_get hx48
       refine ql_r (r_ldw rfl (fun w1 hb1 hs1 hB1 => show Loads _ _ _ _ (.int .i64 x48) from ld_own (id := 24) hs1 rfl rfl ty3 hx48)) rfl ?_
       refine ql_r (r_leq rfl rfl) rfl ?_
       refine ql_nil (to_k0 (fun _ _ h => h) (hK37 _ _ _ _ _ ?_))
       clear hK37
       first | refine wp_condD rfl (fun hc50 => ?_) (fun hc50 => ?_) | refine wp_condN rfl (fun hc50 => ?_) (fun hc50 => ?_) | refine wp_condNB rfl (fun hc50 => ?_) (fun hc50 => ?_) | refine wp_cond' rfl (fun hc50 => ?_) (fun hc50 => ?_)
       ·refine wp_skip' (to_k0 (fun _ _ h => h) (hK36 _ _ _ _ _ ?_))
        clear hK36
        refine wp_seq' fun K38 hK38 => ?_
        refine wp_block' ?_
        refine wp_seq' fun K39 hK39 => ?_
        refine wp_regq (by kernel_rfl) (by kernel_rfl) ?_
        refine ql_r (r_ld (id := 10) rfl rfl rfl sc3) rfl ?_
        refine ql_r (r_ld (id := 7) rfl rfl rfl sc34) rfl ?_
        refine ql_r (r_ld (id := 9) rfl rfl rfl sc3) rfl ?_
        refine ql_ixo (id := 24) encI _ rfl rfl rfl rfl sl34 (by omega) (by omega) rfl fun x58 hx58 => ?_
        try simp only [Int.toNat_natCast] at hx58
        try simp only [Int.toNat_natCast] at hx58
        have hargs := split_args hok hin.1 hxx.1 hxx.2 hd (by omega)
        have h58 := runW_get hx58
        have hsb := spN_bd hok hin.1 (k + 1)
        refine ql_r (r_ldw rfl (fun w1 hb1 hs1 hB1 => show Loads _ _ _ _ (.int .i64 x58) from ld_own (id := 24) hs1 rfl rfl ty3 hx58)) rfl ?_
        refine ql_r (r_sub rfl rfl (by omega)) rfl ?_
        refine ql_r (r_fa (o' := 0) rfl fl36_0 rfl) rfl ?_
        refine ql_r (r_ld (id := 12) rfl rfl rfl sc3) rfl ?_
        refine ql_r (r_fa (o' := 0) rfl fl36_0 rfl) rfl ?_
        refine ql_r (r_ld (id := 11) rfl rfl rfl sc3) rfl ?_
        refine ql_r (r_sub rfl rfl (by omega)) rfl ?_
        refine ql_r (r_mul rfl rfl (by omega)) rfl ?_
        refine ql_r (r_ld (id := 7) rfl rfl rfl sc34) rfl ?_
        refine ql_r (r_ld (id := 9) rfl rfl rfl sc3) rfl ?_
        refine ql_r (r_add rfl rfl (by omega)) rfl ?_
        refine ql_ixo (id := 24) encI _ rfl rfl rfl rfl sl34 (by omega) (by omega) rfl fun x70 hx70 => ?_
        try simp only [Int.toNat_natCast] at hx70
        try simp only [Int.toNat_natCast] at hx70
        rw [e1] at hx70
        have h70 := runW_get hx70
        refine ql_r (r_ldw rfl (fun w1 hb1 hs1 hB1 => show Loads _ _ _ _ (.int .i64 x70) from ld_own (id := 24) hs1 rfl rfl ty3 hx70)) rfl ?_
        refine ql_r (r_ld (id := 7) rfl rfl rfl sc34) rfl ?_
        refine ql_r (r_ld (id := 9) rfl rfl rfl sc3) rfl ?_
        refine ql_ixo (id := 24) encI _ rfl rfl rfl rfl sl34 (by omega) (by omega) rfl fun x74 hx74 => ?_
        try simp only [Int.toNat_natCast] at hx74
        try simp only [Int.toNat_natCast] at hx74
        refine ql_r (r_ldw rfl (fun w1 hb1 hs1 hB1 => show Loads _ _ _ _ (.int .i64 x74) from ld_own (id := 24) hs1 rfl rfl ty3 hx74)) rfl ?_
        have h74 := runW_get hx74
        refine ql_r (r_sub rfl rfl (by omega)) rfl ?_
        refine ql_call rfl rfl cb66 rfl (fun w1 hb1 hs1 hB1 => quant_ScaleUp _ _ _ _ (by omega) (by omega) (by omega) (by rw [h58]; omega)) ?_
        refine ql_r (r_move rfl) rfl ?_
        refine ql_r (r_extract rfl rfl) rfl ?_
        refine ql_r (r_extract rfl rfl) rfl ?_
        refine ql_r (r_assign rfl) rfl ?_
        refine ql_r (r_assign rfl) rfl ?_
        refine ql_nil (to_k0 (fun _ _ h => h) (hK39 _ _ _ _ _ ?_))
        clear hK39
        refine wp_reg ?_
        simp only [h58, h70, h74]
        refine ol_r (r_ld (id := 8) rfl rfl rfl sc60) rfl ?_
        refine ol_r (r_ld (id := 10) rfl rfl rfl sc3) rfl ?_
        refine ol_r (r_fa (o' := 0) rfl fl36_0 rfl) rfl ?_
        refine ol_r (r_ld (id := 11) rfl rfl rfl sc3) rfl ?_
        refine ol_r (r_mul rfl rfl (by omega)) rfl ?_
        refine ol_r (r_move rfl) rfl ?_
        refine ol_r (r_add rfl rfl (by omega)) rfl ?_
        refine ol_r (r_build rfl (fun _ => bd65_0_1 _ _ _)) rfl ?_
        refine ol_bs1 88 rfl rfl rw60 rfl rfl rfl fun a88 => ?_
        refine ol_append1 (id := 3008) (id2 := 88) rfl rfl rfl rfl rfl rw60 (by omega) rfl fun a89 c89 => ?_
        refine ol_store (id := 8) rfl rfl rfl rfl sz60 rfl rfl (by first | decide | exact Nat.zero_lt_succ _ | simp) ?_
        refine ol_nil (to_k0 (fun _ _ h => h) (hK38 _ _ _ _ _ ?_))
        clear hK38
        refine wp_reg ?_
        refine ol_r (r_ld (id := 10) rfl rfl rfl sc3) rfl ?_
        refine ol_r (r_ld (id := 3) rfl rfl rfl sc3) rfl ?_
        refine ol_r (r_add rfl rfl (by omega)) rfl ?_
        refine ol_store (id := 10) rfl rfl rfl rfl sz3 rfl rfl (by first | decide | exact Nat.zero_lt_succ _ | simp) ?_
        refine ol_nil (to_k0 (fun _ _ h => h) (hK35 ((m + 1, _, _, _)) _ _ ?_ ?_ sub_nil (sub_cons rfl (sub_cons rfl (sub_cons rfl (sub_cons rfl (sub_cons rfl (sub_cons rfl (sub_cons rfl (sub_cons rfl (sub_cons rfl sub_nil))))))))) (by exact (subH_blk rfl (sub_cons rfl sub_nil) (subH_row rfl (by first | (dsimp only; exact spl_row hxx.1 hxx.2 hd rfl; done) | (exact spl_row hxx.1 hxx.2 hd rfl; done) | (dsimp only; done)) (subH_blk rfl (sub_cons rfl sub_nil) subH_nil)))) (subH_same rfl (subH_same rfl (subH_same rfl (subH_same rfl (subH_same rfl (subH_same rfl (subH_same rfl (subH_same rfl subH_nil))))))))))
        ·try dsimp only
         exact ⟨by omega, next_d hd⟩
        ·try dsimp only
         omega
       ·refine wp_exit' (to_k0 (fun _ _ h => h) (hK34 _ _ _ _ _ ?_))
        clear hK34
        refine wp_reg ?_
        have hend : spN A.ss way k + m = spN A.ss way (k + 1) := by
          have h9 := spN_cond hok hin.1 (k + 1) (spN A.ss way k + m)
          by_cases h : spN A.ss way k + m < spN A.ss way (k + 1)
          · have := h9.2 h; omega
          · omega
        refine ol_r (r_ld (id := 9) rfl rfl rfl sc3) rfl ?_
        refine ol_r (r_add rfl rfl (by omega)) rfl ?_
        refine ol_store (id := 9) rfl rfl rfl rfl sz3 rfl rfl (by first | decide | exact Nat.zero_lt_succ _ | simp) ?_
        refine ol_nil (QP.of (hn ((_, _, _, _)) _ _ ?_ (by exact (subH_blk rfl (sub_cons rfl sub_nil) (subH_row rfl (by first | (dsimp only; first | rfl | (rw [← midK_done, show spN A.ss way (k + 1) - spN A.ss way k = m by omega]); done) | (first | rfl | (rw [← midK_done, show spN A.ss way (k + 1) - spN A.ss way k = m by omega]); done) | (dsimp only; done)) (subH_blk rfl (sub_cons rfl sub_nil) (subH_blk rfl (sub_cons rfl sub_nil) subH_nil))))) (subH_same rfl (subH_same rfl (subH_same rfl (subH_same rfl (subH_same rfl subH_nil)))))) (fun _ _ h => h))
        try dsimp only
        exact ⟨by omega, hend, hd⟩
     ·rintro s dd hI
      refine (to_k0 (fun _ _ h => h) (hK30 _ _ _ _ _ ?_))
      clear hK30
      refine wp_seq' fun K40 hK40 => ?_
      refine wp_reg ?_
      refine ol_r (r_ld (id := 8) rfl rfl rfl sc60) rfl ?_
      refine ol_r (r_assign rfl) rfl ?_
      refine ol_r (r_assign rfl) rfl ?_
      refine ol_nil (to_k0 (fun _ _ h => h) (hK40 _ _ _ _ _ ?_))
      clear hK40
      refine hQ.ret (rvs2 (rv_t rfl) (rv_t rfl)) (fun _ _ h => h) fun w hb hs hB hkd => ?_
      have h := splitsR_0 (a := A.d) h0 hin hno
      rw [h]
      refine ⟨_, _, _, rfl, hb, ?_⟩
      have h2 := hs.ok 3008 _ rfl
      rw [hlen] at h2
      exact h2
     ·exact fun t dd hI => hI.elim
end Go.Proofs.Ytlbcefnbjdpljaa
