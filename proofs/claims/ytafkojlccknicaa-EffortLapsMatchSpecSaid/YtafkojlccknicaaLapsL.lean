/-
  EveryWay, EveryTime: program and reference; EffortLapsMatchSpec.
-/
import Derived.Test.YtafkojlccknicaaLaps
import Derived.Test.YtafkojlccknicaaBest
namespace Go.Proofs.Ytafkojlccknicaa
open Go Go.RowKit Hx
set_option linter.unusedVariables false
set_option linter.unusedSimpArgs false
set_option maxRecDepth 8000
theorem ba_beq (a : ByteArray) : (a == a) = true := by
  first
    | exact beq_self_eq_true a
    | (show (a.data == a.data) = true; exact beq_self_eq_true _)
def encSl : Enc (Option Addr × Nat × Nat) := { size := 1, cells := fun x => [.slice x.1 x.2.1 x.2.2], val := fun x => .slice x.1 x.2.1 x.2.2, len := fun _ => rfl, ones := fun _ u h => by simp at h; subst h; rfl, pos := by decide, vc := fun _ => rfl }
theorem ty48 : Ty Try.prog 48 encSl := .inl ⟨sc48, fun _ => rfl⟩
theorem fullT_stepI {sc : Int} {span f : Nat} (hs : 1 ≤ sc) (hf : f % sc.toNat = 0) (hlt : f < span) (hst : (lapsSt (fullT sc) span f).2 = f) :
    lapsSt (fullT sc) span (min (f + sc.toNat) span) = ((lapsSt (fullT sc) span f).1 ++ [eLap f ((min (f + sc.toNat) span : Nat) : Int)], min (f + sc.toNat) span) := by
  obtain ⟨s, rfl⟩ := Int.eq_ofNat_of_zero_le (show 0 ≤ sc by omega)
  rw [Int.toNat_natCast] at hf ⊢
  exact fullT_step (by omega) hf hlt hst
theorem time_rowI {sc : Int} {span f : Nat} {v : Int} (hs : 1 ≤ sc) (hf : f % sc.toNat = 0) (hlt : f < span) (hst : (lapsSt (fullT sc) span f).2 = f) (hv : v = ((min (f + sc.toNat) span : Nat) : Int)) :
    encLap.enc (lapsSt (fullT sc) span (min (f + sc.toNat) span)).1 = encLap.enc (lapsSt (fullT sc) span f).1 ++ encLap.cells (eLap f v) := by
  subst hv
  rw [fullT_stepI hs hf hlt hst, Enc.enc_append]; simp [Enc.enc]
theorem many_end {w w' : World} {a : Option Addr} {n c : Nat} {l : List LapR} {R : List LapR × Int} (hn : l.length = n) (hb : Below w.heap.size w w') (hok : (Ent.row a n c (encLap.enc l) 63 encLap.size).ok w.heap.size w') (h : R = manyR l) :
    ∃ b m k, Ending.returned (Value.tuple #[if 200 < n then .slice none 0 0 else .slice a n c, .int .i64 (if 200 < n then 3 else 0)]) = Ending.returned (Value.tuple #[.slice b m k, .int .i64 R.2]) ∧ Fresh encLap 63 w w' b m k R.1 := by
  subst h
  subst hn
  by_cases h2 : 200 < l.length
  · rw [if_pos h2, if_pos h2, manyR_3 h2]; exact ⟨none, 0, 0, rfl, Fresh.nil hb⟩
  · rw [if_neg h2, if_neg h2, manyR_0 h2]; exact ⟨_, _, _, rfl, hb, hok⟩
theorem equal_lap_same (a b : Option Addr) (n c1 c2 : Nat) (xs : List LapR) (w : World) (hx : Rd encLap w.heap.size w a n c1 xs) (hy : Rd encLap w.heap.size w b n c2 xs) :
    Calls Try.prog 44 #[.slice a n c1, .slice b n c2] w fun e w' => e = .returned (.bool true) ∧ Below w.heap.size w w' := by
  have hn := hx.len
  have hf := hx.fit
  refine enterQ (N := 26) (C := fun _ => True) (H := []) (B := w.heap.size) (args := [_, _]) Try.func44 rfl rfl rfl (Nat.le_refl _) (Sat.nil _ _) fun Q hQ => ?_
  refine wp_seq' fun K1 hK1 => ?_
  refine wp_reg ?_
  refine ol_r (r_assign rfl) rfl ?_
  refine ol_nil (to_k0 (fun _ _ h => h) (hK1 _ _ _ _ _ ?_))
  clear hK1
  refine wp_seq' fun K2 hK2 => ?_
  refine wp_seq' fun K3 hK3 => ?_
  refine wp_reg ?_
  refine ol_r (r_move rfl) rfl ?_
  refine ol_r (r_len rfl sl48) rfl ?_
  refine ol_r (r_move rfl) rfl ?_
  refine ol_r (r_len rfl sl48) rfl ?_
  refine ol_r (r_neq rfl rfl) rfl ?_
  refine ol_nil (to_k0 (fun _ _ h => h) (hK3 _ _ _ _ _ ?_))
  clear hK3
  first | refine wp_condD rfl (fun hc10 => ?_) (fun hc10 => ?_) | refine wp_condN rfl (fun hc10 => ?_) (fun hc10 => ?_) | refine wp_condNB rfl (fun hc10 => ?_) (fun hc10 => ?_) | refine wp_cond' rfl (fun hc10 => ?_) (fun hc10 => ?_)
  ·refine wp_seq' fun K4 hK4 => ?_
   refine wp_reg ?_
   refine ol_r (r_assign rfl) rfl ?_
   refine ol_nil (to_k0 (fun _ _ h => h) (hK4 _ _ _ _ _ ?_))
   clear hK4
   refine hQ.ret (rvs1 (rv_t rfl)) (fun _ _ h => h) fun w hb hs hB hkd => ?_
   first
     | exact ⟨rfl, hb⟩
     | (exfalso; omega)
     | (exfalso; simp at hc10; done)
     | (exfalso; simp only [eqs, eqV, encLap, ba_beq, decide_true, Bool.and_self, Bool.not_true] at hc24; cases hc24; done)
  ·refine wp_skip' (to_k0 (fun _ _ h => h) (hK2 _ _ _ _ _ ?_))
   clear hK2
   refine wp_seq' fun K5 hK5 => ?_
   refine wp_seq' fun K6 hK6 => ?_
   refine wp_reg ?_
   refine ol_r (r_move rfl) rfl ?_
   refine ol_r (r_len rfl sl48) rfl ?_
   refine ol_r (r_move rfl) rfl ?_
   refine ol_nil (to_k0 (fun _ _ h => h) (hK6 _ _ _ _ _ ?_))
   clear hK6
   refine wp_block' ?_
   apply wp_loopM (σ := Nat) (fun s => s ≤ n) (fun s => [(13, .int .i64 s)]) [(0, _), (1, _), (12, _)] (fun s => []) [] (fun s => n - s) (0)
   ·try dsimp only
    simp
   ·exact (sub_cons rfl sub_nil)
   ·exact (sub_cons rfl (sub_cons rfl (sub_cons rfl sub_nil)))
   ·exact subH_nil
   ·exact subH_nil
   ·intro k hk
    intro K7 hK7
    refine wp_seq' fun K8 hK8 => ?_
    refine wp_reg ?_
    refine ol_r (r_lss rfl rfl) rfl ?_
    refine ol_nil (to_k0 (fun _ _ h => h) (hK8 _ _ _ _ _ ?_))
    clear hK8
    refine wp_seq' fun K9 hK9 => ?_
    first | refine wp_condD rfl (fun hc14 => ?_) (fun hc14 => ?_) | refine wp_condN rfl (fun hc14 => ?_) (fun hc14 => ?_) | refine wp_condNB rfl (fun hc14 => ?_) (fun hc14 => ?_) | refine wp_cond' rfl (fun hc14 => ?_) (fun hc14 => ?_)
    ·refine wp_skip' (to_k0 (fun _ _ h => h) (hK9 _ _ _ _ _ ?_))
     clear hK9
     refine wp_seq' fun K10 hK10 => ?_
     refine wp_block' ?_
     refine wp_seq' fun K11 hK11 => ?_
     refine wp_reg ?_
     refine ol_r (r_move rfl) rfl ?_
     refine ol_r (r_assign rfl) rfl ?_
     refine ol_nil (to_k0 (fun _ _ h => h) (hK11 _ _ _ _ _ ?_))
     clear hK11
     refine wp_seq' fun K12 hK12 => ?_
     refine wp_regq (by kernel_rfl) (by kernel_rfl) ?_
     refine ql_r (r_move rfl) rfl ?_
     refine ql_r (r_move rfl) rfl ?_
     refine ql_ixr hx rfl rfl sl48 (by omega) rfl fun x18 hx18 => ?_
     try simp only [Int.toNat_natCast] at hx18
     refine ql_r (r_ldw rfl (fun w1 hb1 hs1 hB1 => Rd.loads hx ty63 hx18 hb1)) rfl ?_
     refine ql_r (r_move rfl) rfl ?_
     refine ql_r (r_move rfl) rfl ?_
     refine ql_ixr hy rfl rfl sl48 (by omega) rfl fun x22 hx22 => ?_
     try simp only [Int.toNat_natCast] at hx22
     have h22 : x22 = x18 := by rw [hx18] at hx22; cases hx22; rfl
     subst h22
     refine ql_r (r_ldw rfl (fun w1 hb1 hs1 hB1 => Rd.loads hy ty63 hx22 hb1)) rfl ?_
     refine ql_r (r_nes rfl rfl (by kernel_rfl) (fun w => run_eqs (by kernel_rfl) (by kernel_rfl) w)) rfl ?_
     refine ql_nil (to_k0 (fun _ _ h => h) (hK12 _ _ _ _ _ ?_))
     clear hK12
     first | refine wp_condD rfl (fun hc24 => ?_) (fun hc24 => ?_) | refine wp_condN rfl (fun hc24 => ?_) (fun hc24 => ?_) | refine wp_condNB rfl (fun hc24 => ?_) (fun hc24 => ?_) | refine wp_cond' rfl (fun hc24 => ?_) (fun hc24 => ?_)
     ·refine wp_seq' fun K13 hK13 => ?_
      refine wp_reg ?_
      refine ol_r (r_assign rfl) rfl ?_
      refine ol_nil (to_k0 (fun _ _ h => h) (hK13 _ _ _ _ _ ?_))
      clear hK13
      refine hQ.ret (rvs1 (rv_t rfl)) (fun _ _ h => h) fun w hb hs hB hkd => ?_
      first
        | exact ⟨rfl, hb⟩
        | (exfalso; omega)
        | (exfalso; simp at hc10; done)
        | (exfalso; simp only [eqs, eqV, encLap, ba_beq, decide_true, Bool.and_self, Bool.not_true] at hc24; cases hc24; done)
     ·refine wp_skip' (to_k0 (fun _ _ h => h) (hK10 _ _ _ _ _ ?_))
      clear hK10
      refine wp_reg ?_
      refine ol_r (r_add rfl rfl (by omega)) rfl ?_
      refine ol_r (r_move rfl) rfl ?_
      refine ol_nil (to_k0 (fun _ _ h => h) (hK7 (k + 1) _ _ ?_ ?_ (sub_cons rfl sub_nil) (sub_cons rfl (sub_cons rfl (sub_cons rfl sub_nil))) (by exact subH_nil) subH_nil))
      ·try dsimp only
       omega
      ·try dsimp only
       omega
    ·refine wp_exit' (to_k0 (fun _ _ h => h) (hK5 _ _ _ _ _ ?_))
     clear hK5
     refine wp_seq' fun K14 hK14 => ?_
     refine wp_reg ?_
     refine ol_r (r_assign rfl) rfl ?_
     refine ol_nil (to_k0 (fun _ _ h => h) (hK14 _ _ _ _ _ ?_))
     clear hK14
     refine hQ.ret (rvs1 (rv_t rfl)) (fun _ _ h => h) fun w hb hs hB hkd => ?_
     first
       | exact ⟨rfl, hb⟩
       | (exfalso; omega)
       | (exfalso; simp at hc10; done)
       | (exfalso; simp only [eqs, eqV, encLap, ba_beq, decide_true, Bool.and_self, Bool.not_true] at hc24; cases hc24; done)
theorem ref4_many (a : Option Addr) (n c : Nat) (w : World) :
    Calls Try.prog 92 #[.slice a n c] w fun e w' => e = .returned (.tuple #[if 200 < n then .slice none 0 0 else .slice a n c, .int .i64 (if 200 < n then 3 else 0)]) ∧ Below w.heap.size w w' := by
  refine enterQ (N := 8) (C := fun _ => True) (H := []) (B := w.heap.size) (args := [_]) Try.func92 rfl rfl rfl (Nat.le_refl _) (Sat.nil _ _) fun Q hQ => ?_
  refine wp_seq' fun K1 hK1 => ?_
  refine wp_reg ?_
  refine ol_r (r_assign rfl) rfl ?_
  refine ol_r (r_assign rfl) rfl ?_
  refine ol_nil (to_k0 (fun _ _ h => h) (hK1 _ _ _ _ _ ?_))
  clear hK1
  refine wp_seq' fun K2 hK2 => ?_
  refine wp_seq' fun K3 hK3 => ?_
  refine wp_reg ?_
  refine ol_r (r_move rfl) rfl ?_
  refine ol_r (r_len rfl sl48) rfl ?_
  refine ol_r (r_gtr rfl rfl) rfl ?_
  refine ol_nil (to_k0 (fun _ _ h => h) (hK3 _ _ _ _ _ ?_))
  clear hK3
  first | refine wp_condD rfl (fun hc6 => ?_) (fun hc6 => ?_) | refine wp_condN rfl (fun hc6 => ?_) (fun hc6 => ?_) | refine wp_condNB rfl (fun hc6 => ?_) (fun hc6 => ?_) | refine wp_cond' rfl (fun hc6 => ?_) (fun hc6 => ?_)
  ·refine wp_seq' fun K4 hK4 => ?_
   refine wp_reg ?_
   refine ol_r (r_assign rfl) rfl ?_
   refine ol_r (r_assign rfl) rfl ?_
   refine ol_nil (to_k0 (fun _ _ h => h) (hK4 _ _ _ _ _ ?_))
   clear hK4
   refine hQ.ret (rvs2 (rv_t rfl) (rv_t rfl)) (fun _ _ h => h) fun w hb hs hB hkd => ?_
   first
     | exact ⟨by rw [if_pos (by omega), if_pos (by omega)], hb⟩
     | exact ⟨by rw [if_neg (by omega), if_neg (by omega)], hb⟩
  ·refine wp_skip' (to_k0 (fun _ _ h => h) (hK2 _ _ _ _ _ ?_))
   clear hK2
   refine wp_seq' fun K5 hK5 => ?_
   refine wp_reg ?_
   refine ol_r (r_move rfl) rfl ?_
   refine ol_r (r_assign rfl) rfl ?_
   refine ol_r (r_assign rfl) rfl ?_
   refine ol_nil (to_k0 (fun _ _ h => h) (hK5 _ _ _ _ _ ?_))
   clear hK5
   refine hQ.ret (rvs2 (rv_t rfl) (rv_t rfl)) (fun _ _ h => h) fun w hb hs hB hkd => ?_
   first
     | exact ⟨by rw [if_pos (by omega), if_pos (by omega)], hb⟩
     | exact ⟨by rw [if_neg (by omega), if_neg (by omega)], hb⟩
theorem effort_EveryWay (A : ActV) (way : Int) (w : World) (hA : A.Ok w.heap.size w) :
    Calls Try.prog 40 #[.agg #[.string A.name, .int .i64 A.sport, .int .i64 A.start, .slice A.sa A.sn A.sc, .slice A.la A.ln A.lc, .slice A.ta A.tn A.tc], .int .i64 way] w fun e w' => ∃ b m k, e = .returned (.tuple #[.slice b m k, .int .i64 (everyWayR A.d way).2]) ∧ Fresh encLap 63 w w' b m k (everyWayR A.d way).1 := by
  refine enterQ (N := 25) (C := fun _ => True) (H := []) (B := w.heap.size) (args := [_, _]) Try.func40 rfl rfl rfl (Nat.le_refl _) (Sat.nil _ _) fun Q hQ => ?_
  refine wp_seq' fun K1 hK1 => ?_
  refine wp_reg ?_
  refine ol_box 2 rfl rfl rfl fun b2 => ?_
  refine ol_box 3 rfl rfl rfl fun b3 => ?_
  refine ol_r (r_assign rfl) rfl ?_
  refine ol_r (r_assign rfl) rfl ?_
  refine ol_nil (to_k0 (fun _ _ h => h) (hK1 _ _ _ _ _ ?_))
  clear hK1
  refine wp_seq' fun K2 hK2 => ?_
  refine wp_seq' fun K3 hK3 => ?_
  refine wp_reg ?_
  refine ol_r (r_lda (id := 2) (n := 6) rfl rfl rfl ag51) rfl ?_
  refine ol_call rfl rfl cb80 rfl (fun w1 hb1 hs1 hB1 => Calls.mono (record_Check A _ (hA.at hb1 hB1)) ?_)
  rintro e w2 ⟨rfl, hb2⟩
  refine After.below rfl hb1 hs1 hB1 hb2 ?_
  clear hb2 hB1 hs1 hb1 w2 w1
  refine ol_r (r_assign rfl) rfl ?_
  refine ol_nil (to_k0 (fun _ _ h => h) (hK3 _ _ _ _ _ ?_))
  clear hK3
  refine wp_seq' fun K4 hK4 => ?_
  refine wp_reg ?_
  refine ol_r (r_move rfl) rfl ?_
  refine ol_r (r_neq rfl rfl) rfl ?_
  refine ol_nil (to_k0 (fun _ _ h => h) (hK4 _ _ _ _ _ ?_))
  clear hK4
  first | refine wp_condD rfl (fun hc12 => ?_) (fun hc12 => ?_) | refine wp_condN rfl (fun hc12 => ?_) (fun hc12 => ?_) | refine wp_condNB rfl (fun hc12 => ?_) (fun hc12 => ?_) | refine wp_cond' rfl (fun hc12 => ?_) (fun hc12 => ?_)
  ·refine wp_seq' fun K5 hK5 => ?_
   refine wp_reg ?_
   refine ol_r (r_move rfl) rfl ?_
   refine ol_r (r_assign rfl) rfl ?_
   refine ol_r (r_assign rfl) rfl ?_
   refine ol_nil (to_k0 (fun _ _ h => h) (hK5 _ _ _ _ _ ?_))
   clear hK5
   refine hQ.ret (rvs2 (rv_t rfl) (rv_t rfl)) (fun _ _ h => h) fun w hb hs hB hkd => ?_
   have h := everyWayR_e (way := way) hc12
   exact ⟨none, 0, 0, by rw [h], by rw [h]; exact Fresh.nil hb⟩
  ·refine wp_skip' (to_k0 (fun _ _ h => h) (hK2 _ _ _ _ _ ?_))
   clear hK2
   refine wp_seq' fun K6 hK6 => ?_
   refine wp_seq' fun K7 hK7 => ?_
   refine wp_reg ?_
   refine ol_r (r_ld (id := 3) rfl rfl rfl sc3) rfl ?_
   refine ol_call rfl rfl cb69 rfl (fun w1 hb1 hs1 hB1 => Calls.mono (effort_in _ _ _ _) ?_)
   rintro e w2 ⟨rfl, hb2⟩
   refine After.below rfl hb1 hs1 hB1 hb2 ?_
   clear hb2 hB1 hs1 hb1 w2 w1
   refine ol_r (r_not rfl) rfl ?_
   refine ol_nil (to_k0 (fun _ _ h => h) (hK7 _ _ _ _ _ ?_))
   clear hK7
   first | refine wp_condD rfl (fun hc16 => ?_) (fun hc16 => ?_) | refine wp_condN rfl (fun hc16 => ?_) (fun hc16 => ?_) | refine wp_condNB rfl (fun hc16 => ?_) (fun hc16 => ?_) | refine wp_cond' rfl (fun hc16 => ?_) (fun hc16 => ?_)
   ·refine wp_seq' fun K8 hK8 => ?_
    refine wp_reg ?_
    refine ol_r (r_assign rfl) rfl ?_
    refine ol_r (r_assign rfl) rfl ?_
    refine ol_nil (to_k0 (fun _ _ h => h) (hK8 _ _ _ _ _ ?_))
    clear hK8
    refine hQ.ret (rvs2 (rv_t rfl) (rv_t rfl)) (fun _ _ h => h) fun w hb hs hB hkd => ?_
    have h := everyWayR_9 (Decidable.not_not.1 hc12) (way := way) (fun h => by have := inB_iff.2 h; rw [this] at hc16; cases hc16)
    exact ⟨none, 0, 0, by rw [h], by rw [h]; exact Fresh.nil hb⟩
   ·refine wp_skip' (to_k0 (fun _ _ h => h) (hK6 _ _ _ _ _ ?_))
    clear hK6
    refine wp_seq' fun K9 hK9 => ?_
    refine wp_reg ?_
    have h0 : chkA A.d = 0 := Decidable.not_not.1 hc12
    have hok : SmpOk A.start A.ss := (goodA h0).smp
    have hw : 1 ≤ way ∧ way ≤ 1000000000 := inB_iff.1 (by simpa using hc16)
    have hln : ((wayS A.ss).length : Int) = spanL A.ss := strm_lenL hok 4
    have hsp := hok.span
    have hbd : ∀ x ∈ wayS A.ss, -1 ≤ x ∧ x ≤ 1000000000 := fun x h => strmL_bd hok 4 _ x h
    refine ol_r (r_lda (id := 2) (n := 6) rfl rfl rfl ag51) rfl ?_
    refine ol_call rfl rfl cb81 rfl (fun w1 hb1 hs1 hB1 => Calls.mono (effort_stream A 4 _ (hA.at hb1 hB1) hok (by omega)) ?_)
    rintro e w2 ⟨a18, n18, c18, rfl, hf18⟩
    refine After.fresh (id := 18) rfl hb1 hs1 hB1 hf18 ?_
    have hl18 := hf18.len; clear hf18 hB1 hs1 hb1 w2 w1
    refine ol_alloc 7 z22 rfl fun b7 => ?_
    refine ol_store (id := 7) rfl rfl rfl rfl sz22 rfl rfl (by first | decide | exact Nat.zero_lt_succ _ | simp) ?_
    refine ol_nil (to_k0 (fun _ _ h => h) (hK9 _ _ _ _ _ ?_))
    clear hK9
    refine wp_seq' fun K10 hK10 => ?_
    refine wp_reg ?_
    refine ol_alloc 8 z3 rfl fun b8 => ?_
    refine ol_store (id := 8) rfl rfl rfl rfl sz3 rfl rfl (by first | decide | exact Nat.zero_lt_succ _ | simp) ?_
    refine ol_nil (to_k0 (fun _ _ h => h) (hK10 _ _ _ _ _ ?_))
    clear hK10
    refine wp_seq' fun K11 hK11 => ?_
    refine wp_reg ?_
    refine ol_r (r_ld (id := 7) rfl rfl rfl sc22) rfl ?_
    refine ol_r (r_len rfl sl22) rfl ?_
    refine ol_r (r_func rfl) rfl ?_
    refine ol_call rfl rfl cb90 rfl (fun w1 hb1 hs1 hB1 => ?_)
    have hnn : n18 = (wayS A.ss).length := hl18.symm
    subst hnn
    have hs5 : Sat w.heap.size w1 [(18, .row a18 (wayS A.ss).length c18 (encI.enc (wayS A.ss)) 3 1), (8, .blk b8 [(0, .int .i64 0)] 3), (7, .blk b7 [(0, .slice a18 (wayS A.ss).length c18)] 22), (3, .blk b3 [(0, .int .i64 way)] 3)] := hs1.sub (subH_same rfl (subH_blk rfl (sub_cons rfl sub_nil) (subH_blk rfl (sub_cons rfl sub_nil) (subH_blk rfl (sub_cons rfl sub_nil) subH_nil))))
    refine Calls.mono (laps_way w.heap.size b8 b7 b3 a18 c18 (wayS A.ss) way _ hB1 (by omega) hbd hw (hs5.keys [(18, 100), (8, 101), (7, 102), (3, 103)] (keyed_cons (i := 18) rfl (keyed_cons (i := 8) rfl (keyed_cons (i := 7) rfl (keyed_cons (i := 3) rfl keyed_nil)))) (by decide))) ?_
    rintro e w2 ⟨b22, m22, k22, rfl, hb2, hs2, hB2, hk2⟩
    refine After.sat rfl hb1 hb2 (hs2.one 6 22 rfl (Ent.le_refl _)) hB2 (hk2.imp fun _ h => h.elim) ?_
    clear hs5 hk2 hs2 hb2 hB2 hB1 hs1 hb1 w2 w1
    refine ol_r (r_extract rfl rfl) rfl ?_
    refine ol_r (r_extract rfl rfl) rfl ?_
    refine ol_r (r_assign rfl) rfl ?_
    refine ol_r (r_assign rfl) rfl ?_
    refine ol_nil (to_k0 (fun _ _ h => h) (hK11 _ _ _ _ _ ?_))
    clear hK11
    refine hQ.ret (rvs2 (rv_t rfl) (rv_t rfl)) (fun _ _ h => h) fun w hb hs hB hkd => ?_
    have h := everyWayR_0 h0 hw
    refine ⟨_, _, _, by rw [h]; rfl, hb, ?_⟩
    rw [h]
    exact hs.ok 22 _ rfl
theorem effort_EveryTime (A : ActV) (sc : Int) (w : World) (hA : A.Ok w.heap.size w) :
    Calls Try.prog 42 #[.agg #[.string A.name, .int .i64 A.sport, .int .i64 A.start, .slice A.sa A.sn A.sc, .slice A.la A.ln A.lc, .slice A.ta A.tn A.tc], .int .i64 sc] w fun e w' => ∃ b m k, e = .returned (.tuple #[.slice b m k, .int .i64 (everyTimeR A.d sc).2]) ∧ Fresh encLap 63 w w' b m k (everyTimeR A.d sc).1 := by
  refine enterQ (N := 21) (C := fun _ => True) (H := []) (B := w.heap.size) (args := [_, _]) Try.func42 rfl rfl rfl (Nat.le_refl _) (Sat.nil _ _) fun Q hQ => ?_
  refine wp_seq' fun K1 hK1 => ?_
  refine wp_reg ?_
  refine ol_box 2 rfl rfl rfl fun b2 => ?_
  refine ol_box 3 rfl rfl rfl fun b3 => ?_
  refine ol_r (r_assign rfl) rfl ?_
  refine ol_r (r_assign rfl) rfl ?_
  refine ol_nil (to_k0 (fun _ _ h => h) (hK1 _ _ _ _ _ ?_))
  clear hK1
  refine wp_seq' fun K2 hK2 => ?_
  refine wp_seq' fun K3 hK3 => ?_
  refine wp_reg ?_
  refine ol_r (r_lda (id := 2) (n := 6) rfl rfl rfl ag51) rfl ?_
  refine ol_call rfl rfl cb80 rfl (fun w1 hb1 hs1 hB1 => Calls.mono (record_Check A _ (hA.at hb1 hB1)) ?_)
  rintro e w2 ⟨rfl, hb2⟩
  refine After.below rfl hb1 hs1 hB1 hb2 ?_
  clear hb2 hB1 hs1 hb1 w2 w1
  refine ol_r (r_assign rfl) rfl ?_
  refine ol_nil (to_k0 (fun _ _ h => h) (hK3 _ _ _ _ _ ?_))
  clear hK3
  refine wp_seq' fun K4 hK4 => ?_
  refine wp_reg ?_
  refine ol_r (r_move rfl) rfl ?_
  refine ol_r (r_neq rfl rfl) rfl ?_
  refine ol_nil (to_k0 (fun _ _ h => h) (hK4 _ _ _ _ _ ?_))
  clear hK4
  first | refine wp_condD rfl (fun hc10 => ?_) (fun hc10 => ?_) | refine wp_condN rfl (fun hc10 => ?_) (fun hc10 => ?_) | refine wp_condNB rfl (fun hc10 => ?_) (fun hc10 => ?_) | refine wp_cond' rfl (fun hc10 => ?_) (fun hc10 => ?_)
  ·refine wp_seq' fun K5 hK5 => ?_
   refine wp_reg ?_
   refine ol_r (r_move rfl) rfl ?_
   refine ol_r (r_assign rfl) rfl ?_
   refine ol_r (r_assign rfl) rfl ?_
   refine ol_nil (to_k0 (fun _ _ h => h) (hK5 _ _ _ _ _ ?_))
   clear hK5
   refine hQ.ret (rvs2 (rv_t rfl) (rv_t rfl)) (fun _ _ h => h) fun w hb hs hB hkd => ?_
   have h := everyTimeR_e (s := sc) hc10
   exact ⟨none, 0, 0, by rw [h], by rw [h]; exact Fresh.nil hb⟩
  ·refine wp_skip' (to_k0 (fun _ _ h => h) (hK2 _ _ _ _ _ ?_))
   clear hK2
   refine wp_seq' fun K6 hK6 => ?_
   refine wp_seq' fun K7 hK7 => ?_
   refine wp_reg ?_
   refine ol_r (r_ld (id := 3) rfl rfl rfl sc3) rfl ?_
   refine ol_call rfl rfl cb69 rfl (fun w1 hb1 hs1 hB1 => Calls.mono (effort_in _ _ _ _) ?_)
   rintro e w2 ⟨rfl, hb2⟩
   refine After.below rfl hb1 hs1 hB1 hb2 ?_
   clear hb2 hB1 hs1 hb1 w2 w1
   refine ol_r (r_not rfl) rfl ?_
   refine ol_nil (to_k0 (fun _ _ h => h) (hK7 _ _ _ _ _ ?_))
   clear hK7
   first | refine wp_condD rfl (fun hc14 => ?_) (fun hc14 => ?_) | refine wp_condN rfl (fun hc14 => ?_) (fun hc14 => ?_) | refine wp_condNB rfl (fun hc14 => ?_) (fun hc14 => ?_) | refine wp_cond' rfl (fun hc14 => ?_) (fun hc14 => ?_)
   ·refine wp_seq' fun K8 hK8 => ?_
    refine wp_reg ?_
    refine ol_r (r_assign rfl) rfl ?_
    refine ol_r (r_assign rfl) rfl ?_
    refine ol_nil (to_k0 (fun _ _ h => h) (hK8 _ _ _ _ _ ?_))
    clear hK8
    refine hQ.ret (rvs2 (rv_t rfl) (rv_t rfl)) (fun _ _ h => h) fun w hb hs hB hkd => ?_
    have h := everyTimeR_9 (Decidable.not_not.1 hc10) (s := sc) (fun h => by have := inB_iff.2 h; rw [this] at hc14; cases hc14)
    exact ⟨none, 0, 0, by rw [h], by rw [h]; exact Fresh.nil hb⟩
   ·refine wp_skip' (to_k0 (fun _ _ h => h) (hK6 _ _ _ _ _ ?_))
    clear hK6
    refine wp_seq' fun K9 hK9 => ?_
    refine wp_reg ?_
    have h0 : chkA A.d = 0 := Decidable.not_not.1 hc10
    have hok : SmpOk A.start A.ss := (goodA h0).smp
    have hw : 1 ≤ sc ∧ sc ≤ 1000000 := inB_iff.1 (by simpa using hc14)
    have hsp := hok.span
    obtain ⟨sp, hspan⟩ := Int.eq_ofNat_of_zero_le (show 0 ≤ spanL A.ss by omega)
    refine ol_r (r_lda (id := 2) (n := 6) rfl rfl rfl ag51) rfl ?_
    refine ol_call rfl rfl cb84 rfl (fun w1 hb1 hs1 hB1 => Calls.mono (record_Span A _ (hA.at hb1 hB1)) ?_)
    rintro e w2 ⟨rfl, hb2⟩
    refine After.below rfl hb1 hs1 hB1 hb2 ?_
    clear hb2 hB1 hs1 hb1 w2 w1
    refine ol_r (r_func rfl) rfl ?_
    rw [show spanL A.ss = ((spanL A.ss).toNat : Int) by omega]
    refine ol_call rfl rfl cb90 rfl (fun w1 hb1 hs1 hB1 => Calls.mono (laps_time sc b3 (spanL A.ss).toNat _ (hs1.blk (id := 3) rfl) hw (by omega)) ?_)
    rintro e w2 ⟨a18, n18, c18, rfl, hf18⟩
    refine After.fresh (id := 18) rfl hb1 hs1 hB1 hf18 ?_
    have hl18 := hf18.len; clear hf18 hB1 hs1 hb1 w2 w1
    refine ol_r (r_extract rfl rfl) rfl ?_
    refine ol_r (r_extract rfl rfl) rfl ?_
    refine ol_r (r_assign rfl) rfl ?_
    refine ol_r (r_assign rfl) rfl ?_
    refine ol_nil (to_k0 (fun _ _ h => h) (hK9 _ _ _ _ _ ?_))
    clear hK9
    refine hQ.ret (rvs2 (rv_t rfl) (rv_t rfl)) (fun _ _ h => h) fun w hb hs hB hkd => ?_
    have h := everyTimeR_0 h0 hw
    refine ⟨_, _, _, by rw [h]; rfl, hb, ?_⟩
    rw [h]
    exact hs.ok 18 _ rfl
theorem ref4_EveryWay (A : ActV) (way : Int) (w : World) (hA : A.Ok w.heap.size w) :
    Calls Try.prog 41 #[.agg #[.string A.name, .int .i64 A.sport, .int .i64 A.start, .slice A.sa A.sn A.sc, .slice A.la A.ln A.lc, .slice A.ta A.tn A.tc], .int .i64 way] w fun e w' => ∃ b m k, e = .returned (.tuple #[.slice b m k, .int .i64 (everyWayR A.d way).2]) ∧ Fresh encLap 63 w w' b m k (everyWayR A.d way).1 := by
  refine enterQ (N := 65) (C := fun _ => True) (H := []) (B := w.heap.size) (args := [_, _]) Try.func41 rfl rfl rfl (Nat.le_refl _) (Sat.nil _ _) fun Q hQ => ?_
  refine wp_seq' fun K1 hK1 => ?_
  refine wp_reg ?_
  refine ol_box 2 rfl rfl rfl fun b2 => ?_
  refine ol_r (r_assign rfl) rfl ?_
  refine ol_r (r_assign rfl) rfl ?_
  refine ol_nil (to_k0 (fun _ _ h => h) (hK1 _ _ _ _ _ ?_))
  clear hK1
  refine wp_seq' fun K2 hK2 => ?_
  refine wp_reg ?_
  refine ol_r (r_lda (id := 2) (n := 6) rfl rfl rfl ag51) rfl ?_
  refine ol_call rfl rfl cb37 rfl (fun w1 hb1 hs1 hB1 => Calls.mono (ref4_Stream A 4 _ (hA.at hb1 hB1)) ?_)
  rintro e w2 ⟨a15, n15, c15, rfl, hf15⟩
  refine After.fresh (id := 15) rfl hb1 hs1 hB1 hf15 ?_
  have hl15 := hf15.len; clear hf15 hB1 hs1 hb1 w2 w1
  refine ol_r (r_move rfl) rfl ?_
  refine ol_r (r_extract rfl rfl) rfl ?_
  refine ol_r (r_extract rfl rfl) rfl ?_
  refine ol_r (r_assign rfl) rfl ?_
  refine ol_r (r_assign rfl) rfl ?_
  refine ol_nil (to_k0 (fun _ _ h => h) (hK2 _ _ _ _ _ ?_))
  clear hK2
  refine wp_seq' fun K3 hK3 => ?_
  refine wp_seq' fun K4 hK4 => ?_
  refine wp_reg ?_
  refine ol_r (r_move rfl) rfl ?_
  refine ol_r (r_neq rfl rfl) rfl ?_
  refine ol_nil (to_k0 (fun _ _ h => h) (hK4 _ _ _ _ _ ?_))
  clear hK4
  first | refine wp_condD rfl (fun hc19 => ?_) (fun hc19 => ?_) | refine wp_condN rfl (fun hc19 => ?_) (fun hc19 => ?_) | refine wp_condNB rfl (fun hc19 => ?_) (fun hc19 => ?_) | refine wp_cond' rfl (fun hc19 => ?_) (fun hc19 => ?_)
  ·refine wp_seq' fun K5 hK5 => ?_
   refine wp_reg ?_
   refine ol_r (r_move rfl) rfl ?_
   refine ol_r (r_assign rfl) rfl ?_
   refine ol_r (r_assign rfl) rfl ?_
   refine ol_nil (to_k0 (fun _ _ h => h) (hK5 _ _ _ _ _ ?_))
   clear hK5
   refine hQ.ret (rvs2 (rv_t rfl) (rv_t rfl)) (fun _ _ h => h) fun w hb hs hB hkd => ?_
   have h0 : chkA A.d ≠ 0 := fun h => by rw [streamsR_0 h (by omega)] at hc19; exact hc19 rfl
   have h := everyWayR_e (way := way) h0
   have h2 := streamsR_e (k := 4) h0
   exact ⟨none, 0, 0, by rw [h, h2], by rw [h]; exact Fresh.nil hb⟩
  ·refine wp_skip' (to_k0 (fun _ _ h => h) (hK3 _ _ _ _ _ ?_))
   clear hK3
   refine wp_seq' fun K6 hK6 => ?_
   refine wp_seq' fun K7 hK7 => ?_
   refine wp_reg ?_
   refine ol_r (r_move rfl) rfl ?_
   refine ol_r (r_lss rfl rfl) rfl ?_
   refine ol_r (r_move rfl) rfl ?_
   refine ol_split (d := 23) rfl (fun hs23 => ?_) (fun hs23 => ?_)
   ·have phs23 := hs23; try simp only [decide_eq_true_eq, decide_eq_false_iff_not, Bool.not_eq_true', Bool.not_eq_false', Bool.not_true, Bool.not_false] at phs23
    refine ol_s rfl rfl hs23 rfl ?_
    refine ol_s rfl rfl hs23 rfl ?_
    refine ol_r (r_pickT rfl hs23 rfl) rfl ?_
    refine ol_nil (to_k0 (fun _ _ h => h) (hK7 _ _ _ _ _ ?_))
    clear hK7
    refine wp_condT rfl ?_
    refine wp_seq' fun K8 hK8 => ?_
    refine wp_reg ?_
    refine ol_r (r_assign rfl) rfl ?_
    refine ol_r (r_assign rfl) rfl ?_
    refine ol_nil (to_k0 (fun _ _ h => h) (hK8 _ _ _ _ _ ?_))
    clear hK8
    refine hQ.ret (rvs2 (rv_t rfl) (rv_t rfl)) (fun _ _ h => h) fun w hb hs hB hkd => ?_
    first
      | (have h := everyWayR_9 (way := way) h0 (by omega)
         exact ⟨none, 0, 0, by rw [h], by rw [h]; exact Fresh.nil hb⟩)
      | (have h := everyWayR_9 (way := way) (a := A.d) (by
           by_cases h : chkA A.d = 0
           · exact h
           · rw [streamsR_e h] at hc19; exact absurd h (by simpa using hc19)) (by omega)
         exact ⟨none, 0, 0, by rw [h], by rw [h]; exact Fresh.nil hb⟩)
      | (have ht2 : t = (streamsR A.d 4).1.length := by omega
         subst ht2
         have h := everyWayR_0 (a := A.d) (way := way) h0 (by omega)
         change _ = manyR (lapsSt (fullW (wayS A.ss) way) (wayS A.ss).length (wayS A.ss).length).1 at h
         rw [← hxs, lapsSt_tail, if_pos (by omega)] at h
         refine many_end (by simp) hb ?_ h
         have h2 := hs.ok 8 _ rfl
         rw [Enc.enc_append]
         rw [← hl15] at h2
         exact h2)
      | (have ht2 : t = (streamsR A.d 4).1.length := by omega
         subst ht2
         have h := everyWayR_0 (a := A.d) (way := way) h0 (by omega)
         change _ = manyR (lapsSt (fullW (wayS A.ss) way) (wayS A.ss).length (wayS A.ss).length).1 at h
         rw [← hxs, lapsSt_tail, if_neg (by omega)] at h
         exact many_end rfl hb (hs.ok 8 _ rfl) h)
   ·have phs23 := hs23; try simp only [decide_eq_true_eq, decide_eq_false_iff_not, Bool.not_eq_true', Bool.not_eq_false', Bool.not_true, Bool.not_false] at phs23
    refine ol_g rfl rfl hs23 ?_
    refine ol_r (r_move rfl) rfl ?_
    refine ol_g rfl rfl hs23 ?_
    refine ol_r (r_gtr rfl rfl) rfl ?_
    refine ol_r (r_pickF rfl hs23 rfl) rfl ?_
    refine ol_nil (to_k0 (fun _ _ h => h) (hK7 _ _ _ _ _ ?_))
    clear hK7
    first | refine wp_condD rfl (fun hc26 => ?_) (fun hc26 => ?_) | refine wp_condN rfl (fun hc26 => ?_) (fun hc26 => ?_) | refine wp_condNB rfl (fun hc26 => ?_) (fun hc26 => ?_) | refine wp_cond' rfl (fun hc26 => ?_) (fun hc26 => ?_)
    ·refine wp_seq' fun K9 hK9 => ?_
     refine wp_reg ?_
     refine ol_r (r_assign rfl) rfl ?_
     refine ol_r (r_assign rfl) rfl ?_
     refine ol_nil (to_k0 (fun _ _ h => h) (hK9 _ _ _ _ _ ?_))
     clear hK9
     refine hQ.ret (rvs2 (rv_t rfl) (rv_t rfl)) (fun _ _ h => h) fun w hb hs hB hkd => ?_
     first
       | (have h := everyWayR_9 (way := way) h0 (by omega)
          exact ⟨none, 0, 0, by rw [h], by rw [h]; exact Fresh.nil hb⟩)
       | (have h := everyWayR_9 (way := way) (a := A.d) (by
            by_cases h : chkA A.d = 0
            · exact h
            · rw [streamsR_e h] at hc19; exact absurd h (by simpa using hc19)) (by omega)
          exact ⟨none, 0, 0, by rw [h], by rw [h]; exact Fresh.nil hb⟩)
       | (have ht2 : t = (streamsR A.d 4).1.length := by omega
          subst ht2
          have h := everyWayR_0 (a := A.d) (way := way) h0 (by omega)
          change _ = manyR (lapsSt (fullW (wayS A.ss) way) (wayS A.ss).length (wayS A.ss).length).1 at h
          rw [← hxs, lapsSt_tail, if_pos (by omega)] at h
          refine many_end (by simp) hb ?_ h
          have h2 := hs.ok 8 _ rfl
          rw [Enc.enc_append]
          rw [← hl15] at h2
          exact h2)
       | (have ht2 : t = (streamsR A.d 4).1.length := by omega
          subst ht2
          have h := everyWayR_0 (a := A.d) (way := way) h0 (by omega)
          change _ = manyR (lapsSt (fullW (wayS A.ss) way) (wayS A.ss).length (wayS A.ss).length).1 at h
          rw [← hxs, lapsSt_tail, if_neg (by omega)] at h
          exact many_end rfl hb (hs.ok 8 _ rfl) h)
    ·refine wp_skip' (to_k0 (fun _ _ h => h) (hK6 _ _ _ _ _ ?_))
     clear hK6
     refine wp_seq' fun K10 hK10 => ?_
     refine wp_reg ?_
     refine ol_nilrow 8 63 3 ?_
     refine ol_r (r_assign rfl) rfl ?_
     refine ol_nil (to_k0 (fun _ _ h => h) (hK10 _ _ _ _ _ ?_))
     clear hK10
     refine wp_seq' fun K11 hK11 => ?_
     refine wp_reg ?_
     refine ol_r (r_assign rfl) rfl ?_
     refine ol_r (r_assign rfl) rfl ?_
     refine ol_nil (to_k0 (fun _ _ h => h) (hK11 _ _ _ _ _ ?_))
     clear hK11
     refine wp_seq' fun K12 hK12 => ?_
     refine wp_seq' fun K13 hK13 => ?_
     refine wp_reg ?_
     have h0 : chkA A.d = 0 := by
       by_cases h : chkA A.d = 0
       · exact h
       · rw [streamsR_e h] at hc19; exact absurd h (by simpa using hc19)
     have hok : SmpOk A.start A.ss := (goodA h0).smp
     have hxs : (streamsR A.d 4).1 = wayS A.ss := by rw [streamsR_0 h0 (by omega)]; rfl
     have hln : ((wayS A.ss).length : Int) = spanL A.ss := strm_lenL hok 4
     have hsp := hok.span
     have hbd : ∀ x ∈ (streamsR A.d 4).1, -1 ≤ x ∧ x ≤ 1000000000 := fun x h => strmL_bd hok 4 _ x (by rw [hxs] at h; exact h)
     rw [← hxs] at hln
     refine ol_r (r_move rfl) rfl ?_
     refine ol_r (r_len rfl sl22) rfl ?_
     refine ol_r (r_move rfl) rfl ?_
     refine ol_nil (to_k0 (fun _ _ h => h) (hK13 _ _ _ _ _ ?_))
     clear hK13
     refine wp_block' ?_
     apply wp_loopM (σ := Nat × Int × Nat × Option Addr × Nat × Nat) (fun s => s.1 ≤ (streamsR A.d 4).1.length ∧ s.2.1 = goneW (streamsR A.d 4).1 way s.1 ∧ (lapsSt (fullW (streamsR A.d 4).1 way) 0 s.1).1.length = s.2.2.1 ∧ (lapsSt (fullW (streamsR A.d 4).1 way) 0 s.1).2 = s.2.2.2.2.2) (fun s => [(29, .int .i64 s.1), (10, .int .i64 s.2.1), (8, .slice s.2.2.2.1 s.2.2.1 s.2.2.2.2.1), (9, .int .i64 s.2.2.2.2.2)]) [(1, _), (4, _), (5, _), (6, _), (27, _), (28, _)] (fun s => [(8, .row s.2.2.2.1 s.2.2.1 s.2.2.2.2.1 (encLap.enc (lapsSt (fullW (streamsR A.d 4).1 way) 0 s.1).1) 63 3)]) [(2, _), (15, _)] (fun s => (streamsR A.d 4).1.length - s.1) ((0, 0, 0, none, 0, 0))
     ·try dsimp only
      exact ⟨Nat.zero_le _, rfl, rfl, rfl⟩
     ·exact (sub_cons rfl (sub_cons rfl (sub_cons rfl (sub_cons rfl sub_nil))))
     ·exact (sub_cons rfl (sub_cons rfl (sub_cons rfl (sub_cons rfl (sub_cons rfl (sub_cons rfl sub_nil))))))
     ·exact (subH_row rfl (by first | (dsimp only; rfl; done) | (rfl; done) | (dsimp only; done)) subH_nil)
     ·exact (subH_same rfl (subH_same rfl subH_nil))
     ·rintro ⟨t, g, cnt, oa, oc, f⟩ ⟨ht, hg, hcnt, hf⟩
      dsimp only at ht hg hcnt hf ⊢
      have hgb := goneW_bd (way := way) (by omega) (fun x h => (hbd x h).1) t
      have hcl := lapsSt_len (full := fullW (streamsR A.d 4).1 way) (span := 0) t
      have hfl := lapsSt_from (full := fullW (streamsR A.d 4).1 way) (span := 0) t
      subst hg
      subst hcnt
      subst hf
      intro K14 hK14
      refine wp_seq' fun K15 hK15 => ?_
      refine wp_reg ?_
      refine ol_r (r_lss rfl rfl) rfl ?_
      refine ol_nil (to_k0 (fun _ _ h => h) (hK15 _ _ _ _ _ ?_))
      clear hK15
      refine wp_seq' fun K16 hK16 => ?_
      first | refine wp_condD rfl (fun hc30 => ?_) (fun hc30 => ?_) | refine wp_condN rfl (fun hc30 => ?_) (fun hc30 => ?_) | refine wp_condNB rfl (fun hc30 => ?_) (fun hc30 => ?_) | refine wp_cond' rfl (fun hc30 => ?_) (fun hc30 => ?_)
      ·refine wp_skip' (to_k0 (fun _ _ h => h) (hK16 _ _ _ _ _ ?_))
       clear hK16
       refine wp_seq' fun K17 hK17 => ?_
       refine wp_block' ?_
       refine wp_seq' fun K18 hK18 => ?_
       refine wp_reg ?_
       refine ol_r (r_move rfl) rfl ?_
       refine ol_ixo (id := 15) encI (streamsR A.d 4).1 rfl rfl rfl rfl sl22 (by omega) rfl fun x32 hx32 => ?_
       try simp only [Int.toNat_natCast] at hx32
       try simp only [Int.toNat_natCast] at hx32
       refine ol_r (r_ldw rfl (fun w1 hb1 hs1 hB1 => show Loads _ _ _ _ (.int .i64 x32) from ld_own (id := 15) hs1 rfl rfl ty3 hx32)) rfl ?_
       refine ol_r (r_assign rfl) rfl ?_
       refine ol_r (r_assign rfl) rfl ?_
       refine ol_nil (to_k0 (fun _ _ h => h) (hK18 _ _ _ _ _ ?_))
       clear hK18
       refine wp_seq' fun K19 hK19 => ?_
       refine wp_reg ?_
       have hat : atI (streamsR A.d 4).1 t = x32 := atI_get hx32
       have hxb := hbd _ (List.mem_of_getElem? hx32)
       refine ol_r (r_move rfl) rfl ?_
       refine ol_r (r_move rfl) rfl ?_
       refine ol_r (r_add rfl rfl (by omega)) rfl ?_
       refine ol_r (r_assign rfl) rfl ?_
       refine ol_nil (to_k0 (fun _ _ h => h) (hK19 _ _ _ _ _ ?_))
       clear hK19
       refine wp_seq' fun K20 hK20 => ?_
       refine wp_reg ?_
       refine ol_r (r_move rfl) rfl ?_
       refine ol_r (r_move rfl) rfl ?_
       refine ol_r (r_geq rfl rfl) rfl ?_
       refine ol_nil (to_k0 (fun _ _ h => h) (hK20 _ _ _ _ _ ?_))
       clear hK20
       first | refine wp_condD rfl (fun hc39 => ?_) (fun hc39 => ?_) | refine wp_condN rfl (fun hc39 => ?_) (fun hc39 => ?_) | refine wp_condNB rfl (fun hc39 => ?_) (fun hc39 => ?_) | refine wp_cond' rfl (fun hc39 => ?_) (fun hc39 => ?_)
       ·refine wp_seq' fun K21 hK21 => ?_
        refine wp_reg ?_
        have hFy : fullW (streamsR A.d 4).1 way t = true := by unfold fullW; rw [hat, decide_eq_true_eq]; omega
        refine ol_r (r_move rfl) rfl ?_
        refine ol_r (r_move rfl) rfl ?_
        refine ol_r (r_move rfl) rfl ?_
        refine ol_r (r_add rfl rfl (by omega)) rfl ?_
        refine ol_r (r_build rfl (fun _ => bd63_0_1 _ _ _)) rfl ?_
        refine ol_bs1 45 rfl rfl rw48 rfl rfl rfl fun a45 => ?_
        refine ol_append1 (id := 8) (id2 := 45) rfl rfl rfl rfl rfl rw48 (by omega) rfl fun a46 c46 => ?_
        refine ol_r (r_assign rfl) rfl ?_
        refine ol_nil (to_k0 (fun _ _ h => h) (hK21 _ _ _ _ _ ?_))
        clear hK21
        refine wp_reg ?_
        refine ol_r (r_move rfl) rfl ?_
        refine ol_r (r_add rfl rfl (by omega)) rfl ?_
        refine ol_r (r_assign rfl) rfl ?_
        refine ol_r (r_assign rfl) rfl ?_
        refine ol_nil (to_k0 (fun _ _ h => h) (hK17 _ _ _ _ _ ?_))
        clear hK17
        refine wp_reg ?_
        try have hFn : ¬(fullW (streamsR A.d 4).1 way t = true) := by unfold fullW; rw [hat, decide_eq_true_eq]; omega
        refine ol_r (r_add rfl rfl (by omega)) rfl ?_
        refine ol_r (r_move rfl) rfl ?_
        refine ol_nil (to_k0 (fun _ _ h => h) (hK14 ((t + 1, _, _, _, _, _)) _ _ ?_ ?_ (sub_cons rfl (sub_cons rfl (sub_cons rfl (sub_cons rfl sub_nil)))) (sub_cons rfl (sub_cons rfl (sub_cons rfl (sub_cons rfl (sub_cons rfl (sub_cons rfl sub_nil)))))) (by exact (subH_row rfl (by first | (dsimp only; first | rfl | exact lap_yes (.inl hFy) | exact lap_no (fun h => by rcases h with h | h; exact hFn h; omega); done) | (first | rfl | exact lap_yes (.inl hFy) | exact lap_no (fun h => by rcases h with h | h; exact hFn h; omega); done) | (dsimp only; done)) subH_nil)) (subH_same rfl (subH_same rfl subH_nil))))
        ·try dsimp only
         first
           | (have hF := lapsSt_yes (span := 0) (.inl hFy)
              exact ⟨by omega, by rw [goneW, if_neg (by rw [hat]; omega)], by rw [hF]; simp, by rw [hF]⟩)
           | (have hF := lapsSt_no (full := fullW (streamsR A.d 4).1 way) (span := 0) (t := t) (fun h => by rcases h with h | h; exact hFn h; omega)
              exact ⟨by omega, by rw [goneW, if_pos (by rw [hat]; omega), hat], by rw [hF], by rw [hF]⟩)
        ·try dsimp only
         omega
       ·refine wp_skip' (to_k0 (fun _ _ h => h) (hK17 _ _ _ _ _ ?_))
        clear hK17
        refine wp_reg ?_
        try have hFn : ¬(fullW (streamsR A.d 4).1 way t = true) := by unfold fullW; rw [hat, decide_eq_true_eq]; omega
        refine ol_r (r_add rfl rfl (by omega)) rfl ?_
        refine ol_r (r_move rfl) rfl ?_
        refine ol_nil (to_k0 (fun _ _ h => h) (hK14 ((t + 1, _, _, _, _, _)) _ _ ?_ ?_ (sub_cons rfl (sub_cons rfl (sub_cons rfl (sub_cons rfl sub_nil)))) (sub_cons rfl (sub_cons rfl (sub_cons rfl (sub_cons rfl (sub_cons rfl (sub_cons rfl sub_nil)))))) (by exact (subH_row rfl (by first | (dsimp only; first | rfl | exact lap_yes (.inl hFy) | exact lap_no (fun h => by rcases h with h | h; exact hFn h; omega); done) | (first | rfl | exact lap_yes (.inl hFy) | exact lap_no (fun h => by rcases h with h | h; exact hFn h; omega); done) | (dsimp only; done)) subH_nil)) (subH_same rfl (subH_same rfl subH_nil))))
        ·try dsimp only
         first
           | (have hF := lapsSt_yes (span := 0) (.inl hFy)
              exact ⟨by omega, by rw [goneW, if_neg (by rw [hat]; omega)], by rw [hF]; simp, by rw [hF]⟩)
           | (have hF := lapsSt_no (full := fullW (streamsR A.d 4).1 way) (span := 0) (t := t) (fun h => by rcases h with h | h; exact hFn h; omega)
              exact ⟨by omega, by rw [goneW, if_pos (by rw [hat]; omega), hat], by rw [hF], by rw [hF]⟩)
        ·try dsimp only
         omega
      ·refine wp_exit' (to_k0 (fun _ _ h => h) (hK12 _ _ _ _ _ ?_))
       clear hK12
       refine wp_seq' fun K22 hK22 => ?_
       refine wp_seq' fun K23 hK23 => ?_
       refine wp_reg ?_
       refine ol_r (r_move rfl) rfl ?_
       refine ol_r (r_move rfl) rfl ?_
       refine ol_r (r_len rfl sl22) rfl ?_
       refine ol_r (r_lss rfl rfl) rfl ?_
       refine ol_nil (to_k0 (fun _ _ h => h) (hK23 _ _ _ _ _ ?_))
       clear hK23
       first | refine wp_condD rfl (fun hc53 => ?_) (fun hc53 => ?_) | refine wp_condN rfl (fun hc53 => ?_) (fun hc53 => ?_) | refine wp_condNB rfl (fun hc53 => ?_) (fun hc53 => ?_) | refine wp_cond' rfl (fun hc53 => ?_) (fun hc53 => ?_)
       ·refine wp_reg ?_
        refine ol_r (r_move rfl) rfl ?_
        refine ol_r (r_move rfl) rfl ?_
        refine ol_r (r_move rfl) rfl ?_
        refine ol_r (r_len rfl sl22) rfl ?_
        refine ol_r (r_build rfl (fun _ => bd63_0_1 _ _ _)) rfl ?_
        refine ol_bs1 59 rfl rfl rw48 rfl rfl rfl fun a59 => ?_
        refine ol_append1 (id := 8) (id2 := 59) rfl rfl rfl rfl rfl rw48 (by omega) rfl fun a60 c60 => ?_
        refine ol_r (r_assign rfl) rfl ?_
        refine ol_nil (to_k0 (fun _ _ h => h) (hK22 _ _ _ _ _ ?_))
        clear hK22
        refine wp_seq' fun K24 hK24 => ?_
        refine wp_reg ?_
        refine ol_r (r_move rfl) rfl ?_
        refine ol_call rfl rfl cb92 rfl (fun w1 hb1 hs1 hB1 => Calls.mono (ref4_many _ _ _ _) ?_)
        rintro e w2 ⟨rfl, hb2⟩
        refine After.below rfl hb1 hs1 hB1 hb2 ?_
        clear hb2 hB1 hs1 hb1 w2 w1
        refine ol_r (r_extract rfl rfl) rfl ?_
        refine ol_r (r_extract rfl rfl) rfl ?_
        refine ol_r (r_assign rfl) rfl ?_
        refine ol_r (r_assign rfl) rfl ?_
        refine ol_nil (to_k0 (fun _ _ h => h) (hK24 _ _ _ _ _ ?_))
        clear hK24
        refine hQ.ret (rvs2 (rv_t rfl) (rv_t rfl)) (fun _ _ h => h) fun w hb hs hB hkd => ?_
        first
          | (have h := everyWayR_9 (way := way) h0 (by omega)
             exact ⟨none, 0, 0, by rw [h], by rw [h]; exact Fresh.nil hb⟩)
          | (have h := everyWayR_9 (way := way) (a := A.d) (by
               by_cases h : chkA A.d = 0
               · exact h
               · rw [streamsR_e h] at hc19; exact absurd h (by simpa using hc19)) (by omega)
             exact ⟨none, 0, 0, by rw [h], by rw [h]; exact Fresh.nil hb⟩)
          | (have ht2 : t = (streamsR A.d 4).1.length := by omega
             subst ht2
             have h := everyWayR_0 (a := A.d) (way := way) h0 (by omega)
             change _ = manyR (lapsSt (fullW (wayS A.ss) way) (wayS A.ss).length (wayS A.ss).length).1 at h
             rw [← hxs, lapsSt_tail, if_pos (by omega)] at h
             refine many_end (by simp) hb ?_ h
             have h2 := hs.ok 8 _ rfl
             rw [Enc.enc_append]
             rw [← hl15] at h2
             exact h2)
          | (have ht2 : t = (streamsR A.d 4).1.length := by omega
             subst ht2
             have h := everyWayR_0 (a := A.d) (way := way) h0 (by omega)
             change _ = manyR (lapsSt (fullW (wayS A.ss) way) (wayS A.ss).length (wayS A.ss).length).1 at h
             rw [← hxs, lapsSt_tail, if_neg (by omega)] at h
             exact many_end rfl hb (hs.ok 8 _ rfl) h)
       ·refine wp_skip' (to_k0 (fun _ _ h => h) (hK22 _ _ _ _ _ ?_))
        clear hK22
        refine wp_seq' fun K25 hK25 => ?_
        refine wp_reg ?_
        refine ol_r (r_move rfl) rfl ?_
        refine ol_call rfl rfl cb92 rfl (fun w1 hb1 hs1 hB1 => Calls.mono (ref4_many _ _ _ _) ?_)
        rintro e w2 ⟨rfl, hb2⟩
        refine After.below rfl hb1 hs1 hB1 hb2 ?_
        clear hb2 hB1 hs1 hb1 w2 w1
        refine ol_r (r_extract rfl rfl) rfl ?_
        refine ol_r (r_extract rfl rfl) rfl ?_
        refine ol_r (r_assign rfl) rfl ?_
        refine ol_r (r_assign rfl) rfl ?_
        refine ol_nil (to_k0 (fun _ _ h => h) (hK25 _ _ _ _ _ ?_))
        clear hK25
        refine hQ.ret (rvs2 (rv_t rfl) (rv_t rfl)) (fun _ _ h => h) fun w hb hs hB hkd => ?_
        first
          | (have h := everyWayR_9 (way := way) h0 (by omega)
             exact ⟨none, 0, 0, by rw [h], by rw [h]; exact Fresh.nil hb⟩)
          | (have h := everyWayR_9 (way := way) (a := A.d) (by
               by_cases h : chkA A.d = 0
               · exact h
               · rw [streamsR_e h] at hc19; exact absurd h (by simpa using hc19)) (by omega)
             exact ⟨none, 0, 0, by rw [h], by rw [h]; exact Fresh.nil hb⟩)
          | (have ht2 : t = (streamsR A.d 4).1.length := by omega
             subst ht2
             have h := everyWayR_0 (a := A.d) (way := way) h0 (by omega)
             change _ = manyR (lapsSt (fullW (wayS A.ss) way) (wayS A.ss).length (wayS A.ss).length).1 at h
             rw [← hxs, lapsSt_tail, if_pos (by omega)] at h
             refine many_end (by simp) hb ?_ h
             have h2 := hs.ok 8 _ rfl
             rw [Enc.enc_append]
             rw [← hl15] at h2
             exact h2)
          | (have ht2 : t = (streamsR A.d 4).1.length := by omega
             subst ht2
             have h := everyWayR_0 (a := A.d) (way := way) h0 (by omega)
             change _ = manyR (lapsSt (fullW (wayS A.ss) way) (wayS A.ss).length (wayS A.ss).length).1 at h
             rw [← hxs, lapsSt_tail, if_neg (by omega)] at h
             exact many_end rfl hb (hs.ok 8 _ rfl) h)
theorem ref4_EveryTime (A : ActV) (sc : Int) (w : World) (hA : A.Ok w.heap.size w) :
    Calls Try.prog 43 #[.agg #[.string A.name, .int .i64 A.sport, .int .i64 A.start, .slice A.sa A.sn A.sc, .slice A.la A.ln A.lc, .slice A.ta A.tn A.tc], .int .i64 sc] w fun e w' => ∃ b m k, e = .returned (.tuple #[.slice b m k, .int .i64 (everyTimeR A.d sc).2]) ∧ Fresh encLap 63 w w' b m k (everyTimeR A.d sc).1 := by
  refine enterQ (N := 42) (C := fun _ => True) (H := []) (B := w.heap.size) (args := [_, _]) Try.func43 rfl rfl rfl (Nat.le_refl _) (Sat.nil _ _) fun Q hQ => ?_
  refine wp_seq' fun K1 hK1 => ?_
  refine wp_reg ?_
  refine ol_box 2 rfl rfl rfl fun b2 => ?_
  refine ol_r (r_assign rfl) rfl ?_
  refine ol_r (r_assign rfl) rfl ?_
  refine ol_nil (to_k0 (fun _ _ h => h) (hK1 _ _ _ _ _ ?_))
  clear hK1
  refine wp_seq' fun K2 hK2 => ?_
  refine wp_seq' fun K3 hK3 => ?_
  refine wp_reg ?_
  refine ol_r (r_lda (id := 2) (n := 6) rfl rfl rfl ag51) rfl ?_
  refine ol_call rfl rfl cb82 rfl (fun w1 hb1 hs1 hB1 => Calls.mono (ref2_Check A _ (hA.at hb1 hB1)) ?_)
  rintro e w2 ⟨rfl, hb2⟩
  refine After.below rfl hb1 hs1 hB1 hb2 ?_
  clear hb2 hB1 hs1 hb1 w2 w1
  refine ol_r (r_assign rfl) rfl ?_
  refine ol_nil (to_k0 (fun _ _ h => h) (hK3 _ _ _ _ _ ?_))
  clear hK3
  refine wp_seq' fun K4 hK4 => ?_
  refine wp_reg ?_
  refine ol_r (r_move rfl) rfl ?_
  refine ol_r (r_neq rfl rfl) rfl ?_
  refine ol_nil (to_k0 (fun _ _ h => h) (hK4 _ _ _ _ _ ?_))
  clear hK4
  first | refine wp_condD rfl (fun hc12 => ?_) (fun hc12 => ?_) | refine wp_condN rfl (fun hc12 => ?_) (fun hc12 => ?_) | refine wp_condNB rfl (fun hc12 => ?_) (fun hc12 => ?_) | refine wp_cond' rfl (fun hc12 => ?_) (fun hc12 => ?_)
  ·refine wp_seq' fun K5 hK5 => ?_
   refine wp_reg ?_
   refine ol_r (r_move rfl) rfl ?_
   refine ol_r (r_assign rfl) rfl ?_
   refine ol_r (r_assign rfl) rfl ?_
   refine ol_nil (to_k0 (fun _ _ h => h) (hK5 _ _ _ _ _ ?_))
   clear hK5
   refine hQ.ret (rvs2 (rv_t rfl) (rv_t rfl)) (fun _ _ h => h) fun w hb hs hB hkd => ?_
   have h := everyTimeR_e (s := sc) hc12
   exact ⟨none, 0, 0, by rw [h], by rw [h]; exact Fresh.nil hb⟩
  ·refine wp_skip' (to_k0 (fun _ _ h => h) (hK2 _ _ _ _ _ ?_))
   clear hK2
   refine wp_seq' fun K6 hK6 => ?_
   refine wp_seq' fun K7 hK7 => ?_
   refine wp_reg ?_
   refine ol_r (r_move rfl) rfl ?_
   refine ol_r (r_lss rfl rfl) rfl ?_
   refine ol_r (r_move rfl) rfl ?_
   refine ol_split (d := 16) rfl (fun hs16 => ?_) (fun hs16 => ?_)
   ·have phs16 := hs16; try simp only [decide_eq_true_eq, decide_eq_false_iff_not, Bool.not_eq_true', Bool.not_eq_false', Bool.not_true, Bool.not_false] at phs16
    refine ol_s rfl rfl hs16 rfl ?_
    refine ol_s rfl rfl hs16 rfl ?_
    refine ol_r (r_pickT rfl hs16 rfl) rfl ?_
    refine ol_nil (to_k0 (fun _ _ h => h) (hK7 _ _ _ _ _ ?_))
    clear hK7
    refine wp_condT rfl ?_
    refine wp_seq' fun K8 hK8 => ?_
    refine wp_reg ?_
    refine ol_r (r_assign rfl) rfl ?_
    refine ol_r (r_assign rfl) rfl ?_
    refine ol_nil (to_k0 (fun _ _ h => h) (hK8 _ _ _ _ _ ?_))
    clear hK8
    refine hQ.ret (rvs2 (rv_t rfl) (rv_t rfl)) (fun _ _ h => h) fun w hb hs hB hkd => ?_
    first
      | (have h := everyTimeR_9 (Decidable.not_not.1 hc12) (s := sc) (by omega)
         exact ⟨none, 0, 0, by rw [h], by rw [h]; exact Fresh.nil hb⟩)
      | (have hm2 : m = (spanL A.ss).toNat := by omega
         subst hm2
         exact many_end rfl hb (hs.ok 7 _ rfl) (everyTimeR_0 h0 hw))
   ·have phs16 := hs16; try simp only [decide_eq_true_eq, decide_eq_false_iff_not, Bool.not_eq_true', Bool.not_eq_false', Bool.not_true, Bool.not_false] at phs16
    refine ol_g rfl rfl hs16 ?_
    refine ol_r (r_move rfl) rfl ?_
    refine ol_g rfl rfl hs16 ?_
    refine ol_r (r_gtr rfl rfl) rfl ?_
    refine ol_r (r_pickF rfl hs16 rfl) rfl ?_
    refine ol_nil (to_k0 (fun _ _ h => h) (hK7 _ _ _ _ _ ?_))
    clear hK7
    first | refine wp_condD rfl (fun hc19 => ?_) (fun hc19 => ?_) | refine wp_condN rfl (fun hc19 => ?_) (fun hc19 => ?_) | refine wp_condNB rfl (fun hc19 => ?_) (fun hc19 => ?_) | refine wp_cond' rfl (fun hc19 => ?_) (fun hc19 => ?_)
    ·refine wp_seq' fun K9 hK9 => ?_
     refine wp_reg ?_
     refine ol_r (r_assign rfl) rfl ?_
     refine ol_r (r_assign rfl) rfl ?_
     refine ol_nil (to_k0 (fun _ _ h => h) (hK9 _ _ _ _ _ ?_))
     clear hK9
     refine hQ.ret (rvs2 (rv_t rfl) (rv_t rfl)) (fun _ _ h => h) fun w hb hs hB hkd => ?_
     first
       | (have h := everyTimeR_9 (Decidable.not_not.1 hc12) (s := sc) (by omega)
          exact ⟨none, 0, 0, by rw [h], by rw [h]; exact Fresh.nil hb⟩)
       | (have hm2 : m = (spanL A.ss).toNat := by omega
          subst hm2
          exact many_end rfl hb (hs.ok 7 _ rfl) (everyTimeR_0 h0 hw))
    ·refine wp_skip' (to_k0 (fun _ _ h => h) (hK6 _ _ _ _ _ ?_))
     clear hK6
     refine wp_seq' fun K10 hK10 => ?_
     refine wp_reg ?_
     have h0 : chkA A.d = 0 := Decidable.not_not.1 hc12
     have hok : SmpOk A.start A.ss := (goodA h0).smp
     have hw : 1 ≤ sc ∧ sc ≤ 1000000 := by omega
     have hsp := hok.span
     refine ol_nilrow 7 63 3 ?_
     refine ol_r (r_assign rfl) rfl ?_
     refine ol_nil (to_k0 (fun _ _ h => h) (hK10 _ _ _ _ _ ?_))
     clear hK10
     refine wp_seq' fun K11 hK11 => ?_
     refine wp_seq' fun K12 hK12 => ?_
     refine wp_reg ?_
     refine ol_r (r_assign rfl) rfl ?_
     refine ol_nil (to_k0 (fun _ _ h => h) (hK12 _ _ _ _ _ ?_))
     clear hK12
     refine wp_block' ?_
     apply wp_loopM (σ := Int × Nat × Nat × Option Addr × Nat) (fun s => ∃ f : Nat, s.1 = f ∧ f % sc.toNat = 0 ∧ s.2.1 = min f (spanL A.ss).toNat ∧ f < (spanL A.ss).toNat + sc.toNat ∧ (lapsSt (fullT sc) (spanL A.ss).toNat s.2.1).1.length = s.2.2.1 ∧ (lapsSt (fullT sc) (spanL A.ss).toNat s.2.1).2 = s.2.1) (fun s => [(8, .int .i64 s.1), (7, .slice s.2.2.2.1 s.2.2.1 s.2.2.2.2)]) [(1, _), (2, _), (4, _), (5, _)] (fun s => [(7, .row s.2.2.2.1 s.2.2.1 s.2.2.2.2 (encLap.enc (lapsSt (fullT sc) (spanL A.ss).toNat s.2.1).1) 63 3)]) [(2, _)] (fun s => (spanL A.ss).toNat + sc.toNat - s.1.toNat) ((0, 0, 0, none, 0))
     ·try dsimp only
      exact ⟨0, rfl, by simp, by simp, by omega, rfl, rfl⟩
     ·exact (sub_cons rfl (sub_cons rfl sub_nil))
     ·exact (sub_cons rfl (sub_cons rfl (sub_cons rfl (sub_cons rfl sub_nil))))
     ·exact (subH_row rfl (by first | (dsimp only; rfl; done) | (rfl; done) | (dsimp only; done)) subH_nil)
     ·exact (subH_same rfl subH_nil)
     ·rintro ⟨fI, m, cnt, oa, oc⟩ ⟨f, hfI, hmod, hm, hlt, hcnt, hf⟩
      dsimp only at hfI hmod hm hlt hcnt hf ⊢
      have hcl := lapsSt_len (full := fullT sc) (span := (spanL A.ss).toNat) m
      subst hcnt
      subst hfI
      intro K13 hK13
      refine wp_seq' fun K14 hK14 => ?_
      refine wp_seq' fun K15 hK15 => ?_
      refine wp_reg ?_
      refine ol_r (r_move rfl) rfl ?_
      refine ol_r (r_lda (id := 2) (n := 6) rfl rfl rfl ag51) rfl ?_
      refine ol_call rfl rfl cb87 rfl (fun w1 hb1 hs1 hB1 => Calls.mono (ref2_SpanOf A _ (hA.at hb1 hB1)) ?_)
      rintro e w2 ⟨rfl, hb2⟩
      refine After.below rfl hb1 hs1 hB1 hb2 ?_
      clear hb2 hB1 hs1 hb1 w2 w1
      refine ol_r (r_lss rfl rfl) rfl ?_
      refine ol_nil (to_k0 (fun _ _ h => h) (hK15 _ _ _ _ _ ?_))
      clear hK15
      first | refine wp_condD rfl (fun hc23 => ?_) (fun hc23 => ?_) | refine wp_condN rfl (fun hc23 => ?_) (fun hc23 => ?_) | refine wp_condNB rfl (fun hc23 => ?_) (fun hc23 => ?_) | refine wp_cond' rfl (fun hc23 => ?_) (fun hc23 => ?_)
      ·refine wp_skip' (to_k0 (fun _ _ h => h) (hK14 _ _ _ _ _ ?_))
       clear hK14
       refine wp_seq' fun K16 hK16 => ?_
       refine wp_block' ?_
       refine wp_reg ?_
       have hmf : m = f := by omega
       subst hmf
       refine ol_r (r_move rfl) rfl ?_
       refine ol_r (r_move rfl) rfl ?_
       refine ol_r (r_move rfl) rfl ?_
       refine ol_r (r_move rfl) rfl ?_
       refine ol_r (r_add rfl rfl (by omega)) rfl ?_
       refine ol_r (r_lda (id := 2) (n := 6) rfl rfl rfl ag51) rfl ?_
       refine ol_call rfl rfl cb87 rfl (fun w1 hb1 hs1 hB1 => Calls.mono (ref2_SpanOf A _ (hA.at hb1 hB1)) ?_)
       rintro e w2 ⟨rfl, hb2⟩
       refine After.below rfl hb1 hs1 hB1 hb2 ?_
       clear hb2 hB1 hs1 hb1 w2 w1
       refine ol_r (r_min rfl rfl) rfl ?_
       refine ol_r (r_build rfl (fun _ => bd63_0_1 _ _ _)) rfl ?_
       refine ol_bs1 36 rfl rfl rw48 rfl rfl rfl fun a36 => ?_
       refine ol_append1 (id := 7) (id2 := 36) rfl rfl rfl rfl rfl rw48 (by omega) rfl fun a37 c37 => ?_
       have h0 : chkA A.d = 0 := Decidable.not_not.1 hc12
       have hok : SmpOk A.start A.ss := (goodA h0).smp
       have hw : 1 ≤ sc ∧ sc ≤ 1000000 := by omega
       have hsp := hok.span
       refine ol_r (r_assign rfl) rfl ?_
       refine ol_nil (to_k0 (fun _ _ h => h) (hK16 _ _ _ _ _ ?_))
       clear hK16
       refine wp_reg ?_
       refine ol_r (r_move rfl) rfl ?_
       refine ol_r (r_move rfl) rfl ?_
       refine ol_r (r_add rfl rfl (by omega)) rfl ?_
       refine ol_r (r_assign rfl) rfl ?_
       refine ol_nil (to_k0 (fun _ _ h => h) (hK13 ((_, min (m + sc.toNat) (spanL A.ss).toNat, _, _, _)) _ _ ?_ ?_ (sub_cons rfl (sub_cons rfl sub_nil)) (sub_cons rfl (sub_cons rfl (sub_cons rfl (sub_cons rfl sub_nil)))) (by exact (subH_row rfl (by first | (dsimp only; exact time_rowI hw.1 hmod (by omega) hf (by omega); done) | (exact time_rowI hw.1 hmod (by omega) hf (by omega); done) | (dsimp only; done)) subH_nil)) (subH_same rfl subH_nil)))
       ·try dsimp only
        have hF := fullT_stepI hw.1 hmod (by omega) hf
        exact ⟨m + sc.toNat, by omega, by rw [Nat.add_mod_right]; exact hmod, rfl, by omega, by rw [hF]; simp, by rw [hF]⟩
       ·try dsimp only
        omega
      ·refine wp_exit' (to_k0 (fun _ _ h => h) (hK11 _ _ _ _ _ ?_))
       clear hK11
       refine wp_seq' fun K17 hK17 => ?_
       refine wp_reg ?_
       refine ol_r (r_move rfl) rfl ?_
       refine ol_call rfl rfl cb92 rfl (fun w1 hb1 hs1 hB1 => Calls.mono (ref4_many _ _ _ _) ?_)
       rintro e w2 ⟨rfl, hb2⟩
       refine After.below rfl hb1 hs1 hB1 hb2 ?_
       clear hb2 hB1 hs1 hb1 w2 w1
       refine ol_r (r_extract rfl rfl) rfl ?_
       refine ol_r (r_extract rfl rfl) rfl ?_
       refine ol_r (r_assign rfl) rfl ?_
       refine ol_r (r_assign rfl) rfl ?_
       refine ol_nil (to_k0 (fun _ _ h => h) (hK17 _ _ _ _ _ ?_))
       clear hK17
       refine hQ.ret (rvs2 (rv_t rfl) (rv_t rfl)) (fun _ _ h => h) fun w hb hs hB hkd => ?_
       first
         | (have h := everyTimeR_9 (Decidable.not_not.1 hc12) (s := sc) (by omega)
            exact ⟨none, 0, 0, by rw [h], by rw [h]; exact Fresh.nil hb⟩)
         | (have hm2 : m = (spanL A.ss).toNat := by omega
            subst hm2
            exact many_end rfl hb (hs.ok 7 _ rfl) (everyTimeR_0 h0 hw))
theorem law_laps (A : ActV) (way sc : Int) (w : World) (hA : A.Ok w.heap.size w) :
    Calls Try.prog 9 #[.agg #[.string A.name, .int .i64 A.sport, .int .i64 A.start, .slice A.sa A.sn A.sc, .slice A.la A.ln A.lc, .slice A.ta A.tn A.tc], .int .i64 way, .int .i64 sc] w fun e w' => e = .returned (.bool true) ∧ Below w.heap.size w w' := by
  refine enterQ (N := 94) (C := fun _ => True) (H := []) (B := w.heap.size) (args := [_, _, _]) Try.func9 rfl rfl rfl (Nat.le_refl _) (Sat.nil _ _) fun Q hQ => ?_
  refine wp_seq' fun K1 hK1 => ?_
  refine wp_reg ?_
  refine ol_box 3 rfl rfl rfl fun b3 => ?_
  refine ol_r (r_assign rfl) rfl ?_
  refine ol_nil (to_k0 (fun _ _ h => h) (hK1 _ _ _ _ _ ?_))
  clear hK1
  refine wp_seq' fun K2 hK2 => ?_
  refine wp_reg ?_
  refine ol_r (r_lda (id := 3) (n := 6) rfl rfl rfl ag51) rfl ?_
  refine ol_r (r_move rfl) rfl ?_
  refine ol_call rfl rfl cb40 rfl (fun w1 hb1 hs1 hB1 => Calls.mono (effort_EveryWay A way _ (hA.at hb1 hB1)) ?_)
  rintro e w2 ⟨a23, n23, c23, rfl, hf23⟩
  refine After.fresh (id := 23) rfl hb1 hs1 hB1 hf23 ?_
  have hl23 := hf23.len; clear hf23 hB1 hs1 hb1 w2 w1
  refine ol_r (r_move rfl) rfl ?_
  refine ol_r (r_extract rfl rfl) rfl ?_
  refine ol_r (r_extract rfl rfl) rfl ?_
  refine ol_r (r_assign rfl) rfl ?_
  refine ol_r (r_assign rfl) rfl ?_
  refine ol_nil (to_k0 (fun _ _ h => h) (hK2 _ _ _ _ _ ?_))
  clear hK2
  refine wp_seq' fun K3 hK3 => ?_
  refine wp_reg ?_
  refine ol_r (r_lda (id := 3) (n := 6) rfl rfl rfl ag51) rfl ?_
  refine ol_r (r_move rfl) rfl ?_
  refine ol_call rfl rfl cb41 rfl (fun w1 hb1 hs1 hB1 => Calls.mono (ref4_EveryWay A way _ (hA.at hb1 hB1)) ?_)
  rintro e w2 ⟨a29, n29, c29, rfl, hf29⟩
  refine After.fresh (id := 29) rfl hb1 hs1 hB1 hf29 ?_
  have hl29 := hf29.len; clear hf29 hB1 hs1 hb1 w2 w1
  refine ol_r (r_move rfl) rfl ?_
  refine ol_r (r_extract rfl rfl) rfl ?_
  refine ol_r (r_extract rfl rfl) rfl ?_
  refine ol_r (r_assign rfl) rfl ?_
  refine ol_r (r_assign rfl) rfl ?_
  refine ol_nil (to_k0 (fun _ _ h => h) (hK3 _ _ _ _ _ ?_))
  clear hK3
  refine wp_seq' fun K4 hK4 => ?_
  refine wp_reg ?_
  refine ol_r (r_lda (id := 3) (n := 6) rfl rfl rfl ag51) rfl ?_
  refine ol_r (r_move rfl) rfl ?_
  refine ol_call rfl rfl cb42 rfl (fun w1 hb1 hs1 hB1 => Calls.mono (effort_EveryTime A sc _ (hA.at hb1 hB1)) ?_)
  rintro e w2 ⟨a35, n35, c35, rfl, hf35⟩
  refine After.fresh (id := 35) rfl hb1 hs1 hB1 hf35 ?_
  have hl35 := hf35.len; clear hf35 hB1 hs1 hb1 w2 w1
  refine ol_r (r_move rfl) rfl ?_
  refine ol_r (r_extract rfl rfl) rfl ?_
  refine ol_r (r_extract rfl rfl) rfl ?_
  refine ol_r (r_assign rfl) rfl ?_
  refine ol_r (r_assign rfl) rfl ?_
  refine ol_nil (to_k0 (fun _ _ h => h) (hK4 _ _ _ _ _ ?_))
  clear hK4
  refine wp_seq' fun K5 hK5 => ?_
  refine wp_reg ?_
  refine ol_r (r_lda (id := 3) (n := 6) rfl rfl rfl ag51) rfl ?_
  refine ol_r (r_move rfl) rfl ?_
  refine ol_call rfl rfl cb43 rfl (fun w1 hb1 hs1 hB1 => Calls.mono (ref4_EveryTime A sc _ (hA.at hb1 hB1)) ?_)
  rintro e w2 ⟨a41, n41, c41, rfl, hf41⟩
  refine After.fresh (id := 41) rfl hb1 hs1 hB1 hf41 ?_
  have hl41 := hf41.len; clear hf41 hB1 hs1 hb1 w2 w1
  refine ol_r (r_move rfl) rfl ?_
  refine ol_r (r_extract rfl rfl) rfl ?_
  refine ol_r (r_extract rfl rfl) rfl ?_
  refine ol_r (r_assign rfl) rfl ?_
  refine ol_r (r_assign rfl) rfl ?_
  refine ol_nil (to_k0 (fun _ _ h => h) (hK5 _ _ _ _ _ ?_))
  clear hK5
  refine wp_seq' fun K6 hK6 => ?_
  refine wp_seq' fun K7 hK7 => ?_
  refine wp_reg ?_
  refine ol_r (r_move rfl) rfl ?_
  refine ol_r (r_move rfl) rfl ?_
  refine ol_call rfl rfl cb44 rfl (fun w1 hb1 hs1 hB1 => ?_)
  have hnn : n29 = n23 := by rw [← hl29, ← hl23]
  subst hnn
  refine Calls.mono (equal_lap_same _ _ _ _ _ (everyWayR A.d way).1 _ (Sat.rd hs1 (id := 23) rfl rfl) (Sat.rd hs1 (id := 29) rfl rfl)) ?_
  rintro e w2 ⟨rfl, hb2⟩
  refine After.below rfl hb1 hs1 hB1 hb2 ?_
  clear hb2 hB1 hs1 hb1 w2 w1
  refine ol_r (r_not rfl) rfl ?_
  refine ol_r (r_move rfl) rfl ?_
  refine ol_split (d := 48) rfl (fun hs48 => ?_) (fun hs48 => ?_)
  ·have phs48 := hs48; try simp only [decide_eq_true_eq, decide_eq_false_iff_not, Bool.not_eq_true', Bool.not_eq_false', Bool.not_true, Bool.not_false] at phs48
   refine ol_s rfl rfl hs48 rfl ?_
   refine ol_s rfl rfl hs48 rfl ?_
   refine ol_s rfl rfl hs48 rfl ?_
   refine ol_r (r_pickT rfl hs48 rfl) rfl ?_
   refine ol_r (r_move rfl) rfl ?_
   refine ol_s rfl rfl rfl rfl ?_
   refine ol_s rfl rfl rfl rfl ?_
   refine ol_s rfl rfl rfl rfl ?_
   refine ol_s rfl rfl rfl rfl ?_
   refine ol_r (r_pickT rfl rfl rfl) rfl ?_
   refine ol_r (r_move rfl) rfl ?_
   refine ol_s rfl rfl rfl rfl ?_
   refine ol_s rfl rfl rfl rfl ?_
   refine ol_s rfl rfl rfl rfl ?_
   refine ol_r (r_pickT rfl rfl rfl) rfl ?_
   refine ol_nil (to_k0 (fun _ _ h => h) (hK7 _ _ _ _ _ ?_))
   clear hK7
   refine wp_condT rfl ?_
   refine wp_seq' fun K8 hK8 => ?_
   refine wp_reg ?_
   refine ol_r (r_assign rfl) rfl ?_
   refine ol_nil (to_k0 (fun _ _ h => h) (hK8 _ _ _ _ _ ?_))
   clear hK8
   refine hQ.ret (rvs1 (rv_t rfl)) (fun _ _ h => h) fun w hb hs hB hkd => ?_
   first
     | exact ⟨rfl, hb⟩
     | (exfalso; cases phs48; done)
     | (exfalso; simp at phs53; done)
     | (exfalso; cases phs59; done)
     | (exfalso; simp at hc63; done)
     | (exfalso; omega)
  ·have phs48 := hs48; try simp only [decide_eq_true_eq, decide_eq_false_iff_not, Bool.not_eq_true', Bool.not_eq_false', Bool.not_true, Bool.not_false] at phs48
   refine ol_g rfl rfl hs48 ?_
   refine ol_r (r_move rfl) rfl ?_
   refine ol_g rfl rfl hs48 ?_
   refine ol_r (r_move rfl) rfl ?_
   refine ol_g rfl rfl hs48 ?_
   refine ol_r (r_neq rfl rfl) rfl ?_
   refine ol_r (r_pickF rfl hs48 rfl) rfl ?_
   refine ol_r (r_move rfl) rfl ?_
   refine ol_split (d := 53) rfl (fun hs53 => ?_) (fun hs53 => ?_)
   ·have phs53 := hs53; try simp only [decide_eq_true_eq, decide_eq_false_iff_not, Bool.not_eq_true', Bool.not_eq_false', Bool.not_true, Bool.not_false] at phs53
    refine ol_s rfl rfl hs53 rfl ?_
    refine ol_s rfl rfl hs53 rfl ?_
    refine ol_s rfl rfl hs53 rfl ?_
    refine ol_s rfl rfl hs53 rfl ?_
    refine ol_r (r_pickT rfl hs53 rfl) rfl ?_
    refine ol_r (r_move rfl) rfl ?_
    refine ol_s rfl rfl rfl rfl ?_
    refine ol_s rfl rfl rfl rfl ?_
    refine ol_s rfl rfl rfl rfl ?_
    refine ol_r (r_pickT rfl rfl rfl) rfl ?_
    refine ol_nil (to_k0 (fun _ _ h => h) (hK7 _ _ _ _ _ ?_))
    clear hK7
    refine wp_condT rfl ?_
    refine wp_seq' fun K9 hK9 => ?_
    refine wp_reg ?_
    refine ol_r (r_assign rfl) rfl ?_
    refine ol_nil (to_k0 (fun _ _ h => h) (hK9 _ _ _ _ _ ?_))
    clear hK9
    refine hQ.ret (rvs1 (rv_t rfl)) (fun _ _ h => h) fun w hb hs hB hkd => ?_
    first
      | exact ⟨rfl, hb⟩
      | (exfalso; cases phs48; done)
      | (exfalso; simp at phs53; done)
      | (exfalso; cases phs59; done)
      | (exfalso; simp at hc63; done)
      | (exfalso; omega)
   ·have phs53 := hs53; try simp only [decide_eq_true_eq, decide_eq_false_iff_not, Bool.not_eq_true', Bool.not_eq_false', Bool.not_true, Bool.not_false] at phs53
    refine ol_g rfl rfl hs53 ?_
    refine ol_r (r_move rfl) rfl ?_
    refine ol_g rfl rfl hs53 ?_
    refine ol_r (r_move rfl) rfl ?_
    refine ol_g rfl rfl hs53 ?_
    refine ol_call rfl rfl cb44 rfl (fun w1 hb1 hs1 hB1 => ?_)
    have hnn : n41 = n35 := by rw [← hl41, ← hl35]
    subst hnn
    refine Calls.mono (equal_lap_same _ _ _ _ _ (everyTimeR A.d sc).1 _ (Sat.rd hs1 (id := 35) rfl rfl) (Sat.rd hs1 (id := 41) rfl rfl)) ?_
    rintro e w2 ⟨rfl, hb2⟩
    refine After.below rfl hb1 hs1 hB1 hb2 ?_
    clear hb2 hB1 hs1 hb1 w2 w1
    refine ol_g rfl rfl hs53 ?_
    refine ol_r (r_not rfl) rfl ?_
    refine ol_r (r_pickF rfl hs53 rfl) rfl ?_
    refine ol_r (r_move rfl) rfl ?_
    refine ol_split (d := 59) rfl (fun hs59 => ?_) (fun hs59 => ?_)
    ·have phs59 := hs59; try simp only [decide_eq_true_eq, decide_eq_false_iff_not, Bool.not_eq_true', Bool.not_eq_false', Bool.not_true, Bool.not_false] at phs59
     refine ol_s rfl rfl hs59 rfl ?_
     refine ol_s rfl rfl hs59 rfl ?_
     refine ol_s rfl rfl hs59 rfl ?_
     refine ol_r (r_pickT rfl hs59 rfl) rfl ?_
     refine ol_nil (to_k0 (fun _ _ h => h) (hK7 _ _ _ _ _ ?_))
     clear hK7
     refine wp_condT rfl ?_
     refine wp_seq' fun K10 hK10 => ?_
     refine wp_reg ?_
     refine ol_r (r_assign rfl) rfl ?_
     refine ol_nil (to_k0 (fun _ _ h => h) (hK10 _ _ _ _ _ ?_))
     clear hK10
     refine hQ.ret (rvs1 (rv_t rfl)) (fun _ _ h => h) fun w hb hs hB hkd => ?_
     first
       | exact ⟨rfl, hb⟩
       | (exfalso; cases phs48; done)
       | (exfalso; simp at phs53; done)
       | (exfalso; cases phs59; done)
       | (exfalso; simp at hc63; done)
       | (exfalso; omega)
    ·have phs59 := hs59; try simp only [decide_eq_true_eq, decide_eq_false_iff_not, Bool.not_eq_true', Bool.not_eq_false', Bool.not_true, Bool.not_false] at phs59
     refine ol_g rfl rfl hs59 ?_
     refine ol_r (r_move rfl) rfl ?_
     refine ol_g rfl rfl hs59 ?_
     refine ol_r (r_move rfl) rfl ?_
     refine ol_g rfl rfl hs59 ?_
     refine ol_r (r_neq rfl rfl) rfl ?_
     refine ol_r (r_pickF rfl hs59 rfl) rfl ?_
     refine ol_nil (to_k0 (fun _ _ h => h) (hK7 _ _ _ _ _ ?_))
     clear hK7
     first | refine wp_condD rfl (fun hc63 => ?_) (fun hc63 => ?_) | refine wp_condN rfl (fun hc63 => ?_) (fun hc63 => ?_) | refine wp_condNB rfl (fun hc63 => ?_) (fun hc63 => ?_) | refine wp_cond' rfl (fun hc63 => ?_) (fun hc63 => ?_)
     ·refine wp_seq' fun K11 hK11 => ?_
      refine wp_reg ?_
      refine ol_r (r_assign rfl) rfl ?_
      refine ol_nil (to_k0 (fun _ _ h => h) (hK11 _ _ _ _ _ ?_))
      clear hK11
      refine hQ.ret (rvs1 (rv_t rfl)) (fun _ _ h => h) fun w hb hs hB hkd => ?_
      first
        | exact ⟨rfl, hb⟩
        | (exfalso; cases phs48; done)
        | (exfalso; simp at phs53; done)
        | (exfalso; cases phs59; done)
        | (exfalso; simp at hc63; done)
        | (exfalso; omega)
     ·refine wp_skip' (to_k0 (fun _ _ h => h) (hK6 _ _ _ _ _ ?_))
      clear hK6
      refine wp_seq' fun K12 hK12 => ?_
      refine wp_seq' fun K13 hK13 => ?_
      refine wp_reg ?_
      refine ol_r (r_move rfl) rfl ?_
      refine ol_r (r_move rfl) rfl ?_
      refine ol_bsN 66 rfl rw64 rfl rfl (fun _ => by kernel_rfl) rfl fun a66 => ?_
      refine ol_r (r_len rfl sl64) rfl ?_
      have hlw := everyWay_len A.d way
      have hlt := everyTime_len A.d sc
      refine ol_r (r_move rfl) rfl ?_
      refine ol_nil (to_k0 (fun _ _ h => h) (hK13 _ _ _ _ _ ?_))
      clear hK13
      refine wp_block' ?_
      refine wp_unroll 3 ?_
      refine kp_unroll fun K14 hK14 => ?_
      refine wp_seq' fun K15 hK15 => ?_
      refine wp_reg ?_
      refine ol_r (r_lss rfl rfl) rfl ?_
      refine ol_nil (to_k0 (fun _ _ h => h) (hK15 _ _ _ _ _ ?_))
      clear hK15
      refine wp_seq' fun K16 hK16 => ?_
      first | refine wp_condD rfl (fun hc69 => ?_) (fun hc69 => ?_) | refine wp_condN rfl (fun hc69 => ?_) (fun hc69 => ?_) | refine wp_condNB rfl (fun hc69 => ?_) (fun hc69 => ?_) | refine wp_cond' rfl (fun hc69 => ?_) (fun hc69 => ?_)
      ·refine wp_skip' (to_k0 (fun _ _ h => h) (hK16 _ _ _ _ _ ?_))
       clear hK16
       refine wp_seq' fun K17 hK17 => ?_
       refine wp_block' ?_
       refine wp_seq' fun K18 hK18 => ?_
       refine wp_reg ?_
       refine ol_ixo (id := 66) encSl [(a23, n29, c23), (a35, n41, c35)] rfl rfl rfl rfl sl64 (by omega) rfl fun x70 hx70 => ?_
       try simp only [Int.toNat_natCast] at hx70
       try simp only [Int.toNat_natCast] at hx70
       have h70 := Option.some.inj (hx70.symm.trans (show _ = some (a23, n29, c23) from rfl))
       subst h70
       refine ol_r (r_ldw rfl (fun w1 hb1 hs1 hB1 => ld_own (id := 66) hs1 rfl rfl ty48 hx70)) rfl ?_
       simp only [encSl]
       refine ol_r (r_assign rfl) rfl ?_
       refine ol_nil (to_k0 (fun _ _ h => h) (hK18 _ _ _ _ _ ?_))
       clear hK18
       refine wp_seq' fun K19 hK19 => ?_
       refine wp_reg ?_
       refine ol_r (r_assign rfl) rfl ?_
       refine ol_nil (to_k0 (fun _ _ h => h) (hK19 _ _ _ _ _ ?_))
       clear hK19
       refine wp_seq' fun K20 hK20 => ?_
       refine wp_reg ?_
       refine ol_r (r_move rfl) rfl ?_
       refine ol_r (r_len rfl sl48) rfl ?_
       refine ol_r (r_move rfl) rfl ?_
       refine ol_nil (to_k0 (fun _ _ h => h) (hK20 _ _ _ _ _ ?_))
       clear hK20
       refine wp_block' ?_
       apply wp_loopM (σ := Nat × Int) (fun s => s.1 ≤ n29 ∧ s.2 = toAt (everyWayR A.d way).1 s.1) (fun s => [(74, .int .i64 s.1), (17, .int .i64 s.2)]) [(16, _), (66, _), (67, _), (68, _), (69, _), (70, _), (71, _), (72, _), (73, _)] (fun s => []) [(3, _), (23, _), (29, _), (35, _), (41, _), (66, _)] (fun s => n29 - s.1) ((0, 0))
       ·try dsimp only
        exact ⟨Nat.zero_le _, rfl⟩
       ·exact (sub_cons rfl (sub_cons rfl sub_nil))
       ·exact (sub_cons rfl (sub_cons rfl (sub_cons rfl (sub_cons rfl (sub_cons rfl (sub_cons rfl (sub_cons rfl (sub_cons rfl (sub_cons rfl sub_nil)))))))))
       ·exact subH_nil
       ·exact (subH_same rfl (subH_same rfl (subH_same rfl (subH_same rfl (subH_same rfl (subH_same rfl subH_nil))))))
       ·rintro ⟨k, v⟩ ⟨hk, hv⟩
        dsimp only at hk hv ⊢
        intro K21 hK21
        refine wp_seq' fun K22 hK22 => ?_
        refine wp_reg ?_
        refine ol_r (r_lss rfl rfl) rfl ?_
        refine ol_nil (to_k0 (fun _ _ h => h) (hK22 _ _ _ _ _ ?_))
        clear hK22
        refine wp_seq' fun K23 hK23 => ?_
        first | refine wp_condD rfl (fun hc75 => ?_) (fun hc75 => ?_) | refine wp_condN rfl (fun hc75 => ?_) (fun hc75 => ?_) | refine wp_condNB rfl (fun hc75 => ?_) (fun hc75 => ?_) | refine wp_cond' rfl (fun hc75 => ?_) (fun hc75 => ?_)
        ·refine wp_skip' (to_k0 (fun _ _ h => h) (hK23 _ _ _ _ _ ?_))
         clear hK23
         refine wp_seq' fun K24 hK24 => ?_
         refine wp_block' ?_
         refine wp_seq' fun K25 hK25 => ?_
         refine wp_reg ?_
         refine ol_ixo (id := 23) encLap _ rfl rfl rfl rfl sl48 (by omega) rfl fun x76 hx76 => ?_
         try simp only [Int.toNat_natCast] at hx76
         try simp only [Int.toNat_natCast] at hx76
         refine ol_r (r_ldw rfl (fun w1 hb1 hs1 hB1 => ld_own (id := 23) hs1 rfl rfl ty63 hx76)) rfl ?_
         refine ol_alloc 19 z63 rfl fun b19 => ?_
         refine ol_store (id := 19) rfl rfl rfl rfl sz63 rfl rfl (by first | decide | exact Nat.zero_lt_succ _ | simp) ?_
         refine ol_nil (to_k0 (fun _ _ h => h) (hK25 _ _ _ _ _ ?_))
         clear hK25
         refine wp_seq' fun K26 hK26 => ?_
         refine wp_seq' fun K27 hK27 => ?_
         refine wp_reg ?_
         have hch := everyWay_chain A.d way k x76 hx76
         refine ol_r (r_fa (o' := 0) rfl fl63_0 rfl) rfl ?_
         refine ol_r (r_ld (id := 19) rfl rfl rfl sc3) rfl ?_
         refine ol_r (r_move rfl) rfl ?_
         refine ol_r (r_neq rfl rfl) rfl ?_
         refine ol_r (r_move rfl) rfl ?_
         refine ol_split (d := 82) rfl (fun hs82 => ?_) (fun hs82 => ?_)
         ·have phs82 := hs82; try simp only [decide_eq_true_eq, decide_eq_false_iff_not, Bool.not_eq_true', Bool.not_eq_false', Bool.not_true, Bool.not_false] at phs82
          refine ol_s rfl rfl hs82 rfl ?_
          refine ol_s rfl rfl hs82 rfl ?_
          refine ol_s rfl rfl hs82 rfl ?_
          refine ol_s rfl rfl hs82 rfl ?_
          refine ol_s rfl rfl hs82 rfl ?_
          refine ol_r (r_pickT rfl hs82 rfl) rfl ?_
          refine ol_nil (to_k0 (fun _ _ h => h) (hK27 _ _ _ _ _ ?_))
          clear hK27
          refine wp_condT rfl ?_
          refine wp_seq' fun K28 hK28 => ?_
          refine wp_reg ?_
          refine ol_r (r_assign rfl) rfl ?_
          refine ol_nil (to_k0 (fun _ _ h => h) (hK28 _ _ _ _ _ ?_))
          clear hK28
          refine hQ.ret (rvs1 (rv_t rfl)) (fun _ _ h => h) fun w hb hs hB hkd => ?_
          first
            | exact ⟨rfl, hb⟩
            | (exfalso; cases phs48; done)
            | (exfalso; simp at phs53; done)
            | (exfalso; cases phs59; done)
            | (exfalso; simp at hc63; done)
            | (exfalso; omega)
         ·have phs82 := hs82; try simp only [decide_eq_true_eq, decide_eq_false_iff_not, Bool.not_eq_true', Bool.not_eq_false', Bool.not_true, Bool.not_false] at phs82
          refine ol_g rfl rfl hs82 ?_
          refine ol_r (r_fa (o' := 1) rfl fl63_1 rfl) rfl ?_
          refine ol_g rfl rfl hs82 ?_
          refine ol_r (r_ld (id := 19) rfl rfl rfl sc3) rfl ?_
          refine ol_g rfl rfl hs82 ?_
          refine ol_r (r_fa (o' := 0) rfl fl63_0 rfl) rfl ?_
          refine ol_g rfl rfl hs82 ?_
          refine ol_r (r_ld (id := 19) rfl rfl rfl sc3) rfl ?_
          refine ol_g rfl rfl hs82 ?_
          refine ol_r (r_leq rfl rfl) rfl ?_
          refine ol_r (r_pickF rfl hs82 rfl) rfl ?_
          refine ol_nil (to_k0 (fun _ _ h => h) (hK27 _ _ _ _ _ ?_))
          clear hK27
          first | refine wp_condD rfl (fun hc88 => ?_) (fun hc88 => ?_) | refine wp_condN rfl (fun hc88 => ?_) (fun hc88 => ?_) | refine wp_condNB rfl (fun hc88 => ?_) (fun hc88 => ?_) | refine wp_cond' rfl (fun hc88 => ?_) (fun hc88 => ?_)
          ·refine wp_seq' fun K29 hK29 => ?_
           refine wp_reg ?_
           refine ol_r (r_assign rfl) rfl ?_
           refine ol_nil (to_k0 (fun _ _ h => h) (hK29 _ _ _ _ _ ?_))
           clear hK29
           refine hQ.ret (rvs1 (rv_t rfl)) (fun _ _ h => h) fun w hb hs hB hkd => ?_
           first
             | exact ⟨rfl, hb⟩
             | (exfalso; cases phs48; done)
             | (exfalso; simp at phs53; done)
             | (exfalso; cases phs59; done)
             | (exfalso; simp at hc63; done)
             | (exfalso; omega)
          ·refine wp_skip' (to_k0 (fun _ _ h => h) (hK26 _ _ _ _ _ ?_))
           clear hK26
           refine wp_reg ?_
           refine ol_r (r_fa (o' := 1) rfl fl63_1 rfl) rfl ?_
           refine ol_r (r_ld (id := 19) rfl rfl rfl sc3) rfl ?_
           refine ol_r (r_assign rfl) rfl ?_
           refine ol_nil (to_k0 (fun _ _ h => h) (hK24 _ _ _ _ _ ?_))
           clear hK24
           refine wp_reg ?_
           refine ol_r (r_add rfl rfl (by omega)) rfl ?_
           refine ol_r (r_move rfl) rfl ?_
           refine ol_nil (to_k0 (fun _ _ h => h) (hK21 ((k + 1, _)) _ _ ?_ ?_ (sub_cons rfl (sub_cons rfl sub_nil)) (sub_cons rfl (sub_cons rfl (sub_cons rfl (sub_cons rfl (sub_cons rfl (sub_cons rfl (sub_cons rfl (sub_cons rfl (sub_cons rfl sub_nil))))))))) (by exact subH_nil) (subH_same rfl (subH_same rfl (subH_same rfl (subH_same rfl (subH_same rfl (subH_same rfl subH_nil))))))))
           ·try dsimp only
            exact ⟨by omega, (toAt_get hx76).symm⟩
           ·try dsimp only
            omega
        ·refine wp_exit' (to_k0 (fun _ _ h => h) (hK17 _ _ _ _ _ ?_))
         clear hK17
         refine wp_reg ?_
         refine ol_r (r_add rfl rfl (by omega)) rfl ?_
         have hlw := everyWay_len A.d way
         have hlt := everyTime_len A.d sc
         refine ol_r (r_move rfl) rfl ?_
         refine ol_nil (to_k0 (fun _ _ h => h) (hK14 _ _ ?_))
         clear hK14
         refine kp_unroll fun K30 hK30 => ?_
         refine wp_seq' fun K31 hK31 => ?_
         refine wp_reg ?_
         refine ol_r (r_lss rfl rfl) rfl ?_
         refine ol_nil (to_k0 (fun _ _ h => h) (hK31 _ _ _ _ _ ?_))
         clear hK31
         refine wp_seq' fun K32 hK32 => ?_
         first | refine wp_condD rfl (fun hc69 => ?_) (fun hc69 => ?_) | refine wp_condN rfl (fun hc69 => ?_) (fun hc69 => ?_) | refine wp_condNB rfl (fun hc69 => ?_) (fun hc69 => ?_) | refine wp_cond' rfl (fun hc69 => ?_) (fun hc69 => ?_)
         ·refine wp_skip' (to_k0 (fun _ _ h => h) (hK32 _ _ _ _ _ ?_))
          clear hK32
          refine wp_seq' fun K33 hK33 => ?_
          refine wp_block' ?_
          refine wp_seq' fun K34 hK34 => ?_
          refine wp_reg ?_
          refine ol_ixo (id := 66) encSl [(a23, n29, c23), (a35, n41, c35)] rfl rfl rfl rfl sl64 (by omega) rfl fun x70 hx70 => ?_
          try simp only [Int.toNat_natCast] at hx70
          try simp only [Int.toNat_natCast] at hx70
          have h70 := Option.some.inj (hx70.symm.trans (show _ = some (a35, n41, c35) from rfl))
          subst h70
          refine ol_r (r_ldw rfl (fun w1 hb1 hs1 hB1 => ld_own (id := 66) hs1 rfl rfl ty48 hx70)) rfl ?_
          simp only [encSl]
          refine ol_r (r_assign rfl) rfl ?_
          refine ol_nil (to_k0 (fun _ _ h => h) (hK34 _ _ _ _ _ ?_))
          clear hK34
          refine wp_seq' fun K35 hK35 => ?_
          refine wp_reg ?_
          refine ol_r (r_assign rfl) rfl ?_
          refine ol_nil (to_k0 (fun _ _ h => h) (hK35 _ _ _ _ _ ?_))
          clear hK35
          refine wp_seq' fun K36 hK36 => ?_
          refine wp_reg ?_
          refine ol_r (r_move rfl) rfl ?_
          refine ol_r (r_len rfl sl48) rfl ?_
          refine ol_r (r_move rfl) rfl ?_
          refine ol_nil (to_k0 (fun _ _ h => h) (hK36 _ _ _ _ _ ?_))
          clear hK36
          refine wp_block' ?_
          apply wp_loopM (σ := Nat × Int) (fun s => s.1 ≤ n41 ∧ s.2 = toAt (everyTimeR A.d sc).1 s.1) (fun s => [(74, .int .i64 s.1), (17, .int .i64 s.2)]) [(16, _), (66, _), (67, _), (68, _), (69, _), (70, _), (71, _), (72, _), (73, _), (92, _)] (fun s => []) [(3, _), (23, _), (29, _), (35, _), (41, _), (66, _)] (fun s => n41 - s.1) ((0, 0))
          ·try dsimp only
           exact ⟨Nat.zero_le _, rfl⟩
          ·exact (sub_cons rfl (sub_cons rfl sub_nil))
          ·exact (sub_cons rfl (sub_cons rfl (sub_cons rfl (sub_cons rfl (sub_cons rfl (sub_cons rfl (sub_cons rfl (sub_cons rfl (sub_cons rfl (sub_cons rfl sub_nil))))))))))
          ·exact subH_nil
          ·exact (subH_same rfl (subH_same rfl (subH_same rfl (subH_same rfl (subH_same rfl (subH_same rfl subH_nil))))))
          ·rintro ⟨k, v⟩ ⟨hk, hv⟩
           dsimp only at hk hv ⊢
           intro K37 hK37
           refine wp_seq' fun K38 hK38 => ?_
           refine wp_reg ?_
           refine ol_r (r_lss rfl rfl) rfl ?_
           refine ol_nil (to_k0 (fun _ _ h => h) (hK38 _ _ _ _ _ ?_))
           clear hK38
           refine wp_seq' fun K39 hK39 => ?_
           first | refine wp_condD rfl (fun hc75 => ?_) (fun hc75 => ?_) | refine wp_condN rfl (fun hc75 => ?_) (fun hc75 => ?_) | refine wp_condNB rfl (fun hc75 => ?_) (fun hc75 => ?_) | refine wp_cond' rfl (fun hc75 => ?_) (fun hc75 => ?_)
           ·refine wp_skip' (to_k0 (fun _ _ h => h) (hK39 _ _ _ _ _ ?_))
            clear hK39
            refine wp_seq' fun K40 hK40 => ?_
            refine wp_block' ?_
            refine wp_seq' fun K41 hK41 => ?_
            refine wp_reg ?_
            refine ol_ixo (id := 35) encLap _ rfl rfl rfl rfl sl48 (by omega) rfl fun x76 hx76 => ?_
            try simp only [Int.toNat_natCast] at hx76
            try simp only [Int.toNat_natCast] at hx76
            refine ol_r (r_ldw rfl (fun w1 hb1 hs1 hB1 => ld_own (id := 35) hs1 rfl rfl ty63 hx76)) rfl ?_
            refine ol_alloc 19 z63 rfl fun b19 => ?_
            refine ol_store (id := 19) rfl rfl rfl rfl sz63 rfl rfl (by first | decide | exact Nat.zero_lt_succ _ | simp) ?_
            refine ol_nil (to_k0 (fun _ _ h => h) (hK41 _ _ _ _ _ ?_))
            clear hK41
            refine wp_seq' fun K42 hK42 => ?_
            refine wp_seq' fun K43 hK43 => ?_
            refine wp_reg ?_
            have hch := everyTime_chain A.d sc k x76 hx76
            refine ol_r (r_fa (o' := 0) rfl fl63_0 rfl) rfl ?_
            refine ol_r (r_ld (id := 19) rfl rfl rfl sc3) rfl ?_
            refine ol_r (r_move rfl) rfl ?_
            refine ol_r (r_neq rfl rfl) rfl ?_
            refine ol_r (r_move rfl) rfl ?_
            refine ol_split (d := 82) rfl (fun hs82 => ?_) (fun hs82 => ?_)
            ·have phs82 := hs82; try simp only [decide_eq_true_eq, decide_eq_false_iff_not, Bool.not_eq_true', Bool.not_eq_false', Bool.not_true, Bool.not_false] at phs82
             refine ol_s rfl rfl hs82 rfl ?_
             refine ol_s rfl rfl hs82 rfl ?_
             refine ol_s rfl rfl hs82 rfl ?_
             refine ol_s rfl rfl hs82 rfl ?_
             refine ol_s rfl rfl hs82 rfl ?_
             refine ol_r (r_pickT rfl hs82 rfl) rfl ?_
             refine ol_nil (to_k0 (fun _ _ h => h) (hK43 _ _ _ _ _ ?_))
             clear hK43
             refine wp_condT rfl ?_
             refine wp_seq' fun K44 hK44 => ?_
             refine wp_reg ?_
             refine ol_r (r_assign rfl) rfl ?_
             refine ol_nil (to_k0 (fun _ _ h => h) (hK44 _ _ _ _ _ ?_))
             clear hK44
             refine hQ.ret (rvs1 (rv_t rfl)) (fun _ _ h => h) fun w hb hs hB hkd => ?_
             first
               | exact ⟨rfl, hb⟩
               | (exfalso; cases phs48; done)
               | (exfalso; simp at phs53; done)
               | (exfalso; cases phs59; done)
               | (exfalso; simp at hc63; done)
               | (exfalso; omega)
            ·have phs82 := hs82; try simp only [decide_eq_true_eq, decide_eq_false_iff_not, Bool.not_eq_true', Bool.not_eq_false', Bool.not_true, Bool.not_false] at phs82
             refine ol_g rfl rfl hs82 ?_
             refine ol_r (r_fa (o' := 1) rfl fl63_1 rfl) rfl ?_
             refine ol_g rfl rfl hs82 ?_
             refine ol_r (r_ld (id := 19) rfl rfl rfl sc3) rfl ?_
             refine ol_g rfl rfl hs82 ?_
             refine ol_r (r_fa (o' := 0) rfl fl63_0 rfl) rfl ?_
             refine ol_g rfl rfl hs82 ?_
             refine ol_r (r_ld (id := 19) rfl rfl rfl sc3) rfl ?_
             refine ol_g rfl rfl hs82 ?_
             refine ol_r (r_leq rfl rfl) rfl ?_
             refine ol_r (r_pickF rfl hs82 rfl) rfl ?_
             refine ol_nil (to_k0 (fun _ _ h => h) (hK43 _ _ _ _ _ ?_))
             clear hK43
             first | refine wp_condD rfl (fun hc88 => ?_) (fun hc88 => ?_) | refine wp_condN rfl (fun hc88 => ?_) (fun hc88 => ?_) | refine wp_condNB rfl (fun hc88 => ?_) (fun hc88 => ?_) | refine wp_cond' rfl (fun hc88 => ?_) (fun hc88 => ?_)
             ·refine wp_seq' fun K45 hK45 => ?_
              refine wp_reg ?_
              refine ol_r (r_assign rfl) rfl ?_
              refine ol_nil (to_k0 (fun _ _ h => h) (hK45 _ _ _ _ _ ?_))
              clear hK45
              refine hQ.ret (rvs1 (rv_t rfl)) (fun _ _ h => h) fun w hb hs hB hkd => ?_
              first
                | exact ⟨rfl, hb⟩
                | (exfalso; cases phs48; done)
                | (exfalso; simp at phs53; done)
                | (exfalso; cases phs59; done)
                | (exfalso; simp at hc63; done)
                | (exfalso; omega)
             ·refine wp_skip' (to_k0 (fun _ _ h => h) (hK42 _ _ _ _ _ ?_))
              clear hK42
              refine wp_reg ?_
              refine ol_r (r_fa (o' := 1) rfl fl63_1 rfl) rfl ?_
              refine ol_r (r_ld (id := 19) rfl rfl rfl sc3) rfl ?_
              refine ol_r (r_assign rfl) rfl ?_
              refine ol_nil (to_k0 (fun _ _ h => h) (hK40 _ _ _ _ _ ?_))
              clear hK40
              refine wp_reg ?_
              refine ol_r (r_add rfl rfl (by omega)) rfl ?_
              refine ol_r (r_move rfl) rfl ?_
              refine ol_nil (to_k0 (fun _ _ h => h) (hK37 ((k + 1, _)) _ _ ?_ ?_ (sub_cons rfl (sub_cons rfl sub_nil)) (sub_cons rfl (sub_cons rfl (sub_cons rfl (sub_cons rfl (sub_cons rfl (sub_cons rfl (sub_cons rfl (sub_cons rfl (sub_cons rfl (sub_cons rfl sub_nil)))))))))) (by exact subH_nil) (subH_same rfl (subH_same rfl (subH_same rfl (subH_same rfl (subH_same rfl (subH_same rfl subH_nil))))))))
              ·try dsimp only
               exact ⟨by omega, (toAt_get hx76).symm⟩
              ·try dsimp only
               omega
           ·refine wp_exit' (to_k0 (fun _ _ h => h) (hK33 _ _ _ _ _ ?_))
            clear hK33
            refine wp_reg ?_
            refine ol_r (r_add rfl rfl (by omega)) rfl ?_
            have hlw := everyWay_len A.d way
            have hlt := everyTime_len A.d sc
            refine ol_r (r_move rfl) rfl ?_
            refine ol_nil (to_k0 (fun _ _ h => h) (hK30 _ _ ?_))
            clear hK30
            refine kp_unroll fun K46 hK46 => ?_
            refine wp_seq' fun K47 hK47 => ?_
            refine wp_reg ?_
            refine ol_r (r_lss rfl rfl) rfl ?_
            refine ol_nil (to_k0 (fun _ _ h => h) (hK47 _ _ _ _ _ ?_))
            clear hK47
            refine wp_seq' fun K48 hK48 => ?_
            first | refine wp_condD rfl (fun hc69 => ?_) (fun hc69 => ?_) | refine wp_condN rfl (fun hc69 => ?_) (fun hc69 => ?_) | refine wp_condNB rfl (fun hc69 => ?_) (fun hc69 => ?_) | refine wp_cond' rfl (fun hc69 => ?_) (fun hc69 => ?_)
            ·exfalso
             omega
            ·refine wp_exit' (to_k0 (fun _ _ h => h) (hK12 _ _ _ _ _ ?_))
             clear hK12
             refine wp_seq' fun K49 hK49 => ?_
             refine wp_reg ?_
             refine ol_call rfl rfl cb16 rfl (fun w1 hb1 hs1 hB1 => Calls.mono (effort_told _) ?_)
             rintro e w2 ⟨rfl, hb2⟩
             refine After.below rfl hb1 hs1 hB1 hb2 ?_
             clear hb2 hB1 hs1 hb1 w2 w1
             refine ol_r (r_assign rfl) rfl ?_
             refine ol_nil (to_k0 (fun _ _ h => h) (hK49 _ _ _ _ _ ?_))
             clear hK49
             refine hQ.ret (rvs1 (rv_t rfl)) (fun _ _ h => h) fun w hb hs hB hkd => ?_
             first
               | exact ⟨rfl, hb⟩
               | (exfalso; cases phs48; done)
               | (exfalso; simp at phs53; done)
               | (exfalso; cases phs59; done)
               | (exfalso; simp at hc63; done)
               | (exfalso; omega)
         ·exfalso
          omega
      ·exfalso
       omega
end Go.Proofs.Ytafkojlccknicaa
