/-
  Parts: program and reference; EffortPartsMatchSpec.
-/
import Derived.Test.YtafkojlccknicaaPartsAM
import Derived.Test.YtafkojlccknicaaBest
namespace Go.Proofs.Ytafkojlccknicaa
open Go Go.RowKit Hx
set_option linter.unusedVariables false
set_option linter.unusedSimpArgs false
set_option maxRecDepth 8000
def encPart : Enc PartV := { size := 10, cells := fun x => [.int .i64 x.f, .int .i64 x.t, .int .i64 x.way, .int .i64 x.climb, .int .i64 x.pulse, .int .i64 x.power, .int .i64 x.steps, .int .i64 x.pk, .int .i64 x.wk, .int .i64 x.sk], val := fun x => .agg #[.int .i64 x.f, .int .i64 x.t, .int .i64 x.way, .int .i64 x.climb, .int .i64 x.pulse, .int .i64 x.power, .int .i64 x.steps, .int .i64 x.pk, .int .i64 x.wk, .int .i64 x.sk], len := fun _ => rfl, ones := fun _ u h => (by simp at h; rcases h with h | h | h | h | h | h | h | h | h | h <;> subst h <;> rfl), pos := by decide, vc := fun _ => rfl }
theorem ty55 : Ty Try.prog 55 encPart := .inr ⟨ag55, fun _ => rfl⟩
noncomputable def lapPart (ss : List SmpR) (l : LapR) : PartV := partV ss l.from_.toNat l.to.toNat
noncomputable def partsR (a : ActD) : List PartV × Int := if chkA a ≠ 0 then ([], chkA a) else (a.ls.map (lapPart a.ss), 0)
theorem partsR_e {a : ActD} (h : chkA a ≠ 0) : partsR a = ([], chkA a) := if_pos h
theorem partsR_0 {a : ActD} (h : chkA a = 0) : partsR a = (a.ls.map (lapPart a.ss), 0) := if_neg (by simp [h])
theorem map_take_succ {α β : Type} {g : α → β} {xs : List α} {k : Nat} {x : α} (h : xs[k]? = some x) : (xs.take (k + 1)).map g = (xs.take k).map g ++ [g x] := by rw [take_succ_get h]; simp
theorem part_row {ss : List SmpR} {ls : List LapR} {k f t : Nat} {x : LapR} (hx : ls[k]? = some x) (h : lapPart ss x = partV ss f t) : encPart.enc ((ls.take (k + 1)).map (lapPart ss)) = encPart.enc ((ls.take k).map (lapPart ss)) ++ encPart.cells (partV ss f t) := by
  rw [map_take_succ hx, Enc.enc_append, h]; simp [Enc.enc]
theorem equal_part_same (a b : Option Addr) (n c1 c2 : Nat) (xs : List PartV) (w : World) (hx : Rd encPart w.heap.size w a n c1 xs) (hy : Rd encPart w.heap.size w b n c2 xs) :
    Calls Try.prog 47 #[.slice a n c1, .slice b n c2] w fun e w' => e = .returned (.bool true) ∧ Below w.heap.size w w' := by
  have hn := hx.len
  have hf := hx.fit
  refine enterQ (N := 26) (C := fun _ => True) (H := []) (B := w.heap.size) (args := [_, _]) Try.func47 rfl rfl rfl (Nat.le_refl _) (Sat.nil _ _) fun Q hQ => ?_
  refine wp_seq' fun K1 hK1 => ?_
  refine wp_reg ?_
  refine ol_r (r_assign rfl) rfl ?_
  refine ol_nil (to_k0 (fun _ _ h => h) (hK1 _ _ _ _ _ ?_))
  clear hK1
  refine wp_seq' fun K2 hK2 => ?_
  refine wp_seq' fun K3 hK3 => ?_
  refine wp_reg ?_
  refine ol_r (r_move rfl) rfl ?_
  refine ol_r (r_len rfl sl66) rfl ?_
  refine ol_r (r_move rfl) rfl ?_
  refine ol_r (r_len rfl sl66) rfl ?_
  refine ol_r (r_neq rfl rfl) rfl ?_
  refine ol_nil (to_k0 (fun _ _ h => h) (hK3 _ _ _ _ _ ?_))
  clear hK3
  first | refine wp_condD rfl (fun hc10 => ?_) (fun hc10 => ?_) | refine wp_condN rfl (fun hc10 => ?_) (fun hc10 => ?_) | refine wp_condNB rfl (fun hc10 => ?_) (fun hc10 => ?_) | refine wp_cond' rfl (fun hc10 => ?_) (fun hc10 => ?_)
  ·refine wp_seq' fun K4 hK4 => ?_
   refine wp_reg ?_
   refine ol_r (r_assign rfl) rfl ?_
   refine ol_nil (to_k0 (fun _ _ h => h) (hK4 _ _ _ _ _ ?_))
   clear hK4
   refine hQ.ret (rvs1 (rv_t rfl)) (fun _ _ h => h) fun w hb hs hB hkd => ?_
   first
     | exact ⟨rfl, hb⟩
     | (exfalso; simp_all; done)
     | (exfalso; simp_all [eqs, eqV, encPart]; done)
  ·refine wp_skip' (to_k0 (fun _ _ h => h) (hK2 _ _ _ _ _ ?_))
   clear hK2
   refine wp_seq' fun K5 hK5 => ?_
   refine wp_seq' fun K6 hK6 => ?_
   refine wp_reg ?_
   refine ol_r (r_move rfl) rfl ?_
   refine ol_r (r_len rfl sl66) rfl ?_
   refine ol_r (r_move rfl) rfl ?_
   refine ol_nil (to_k0 (fun _ _ h => h) (hK6 _ _ _ _ _ ?_))
   clear hK6
   refine wp_block' ?_
   apply wp_loopM (σ := Nat) (fun s => s ≤ n) (fun s => [(13, .int .i64 s)]) [(0, _), (1, _), (12, _)] (fun s => []) [] (fun s => n - s) (0)
   ·try dsimp only
    simp
   ·exact (sub_cons rfl sub_nil)
   ·exact (sub_cons rfl (sub_cons rfl (sub_cons rfl sub_nil)))
   ·exact subH_nil
   ·exact subH_nil
   ·intro k hk
    intro K7 hK7
    refine wp_seq' fun K8 hK8 => ?_
    refine wp_reg ?_
    refine ol_r (r_lss rfl rfl) rfl ?_
    refine ol_nil (to_k0 (fun _ _ h => h) (hK8 _ _ _ _ _ ?_))
    clear hK8
    refine wp_seq' fun K9 hK9 => ?_
    first | refine wp_condD rfl (fun hc14 => ?_) (fun hc14 => ?_) | refine wp_condN rfl (fun hc14 => ?_) (fun hc14 => ?_) | refine wp_condNB rfl (fun hc14 => ?_) (fun hc14 => ?_) | refine wp_cond' rfl (fun hc14 => ?_) (fun hc14 => ?_)
    ·refine wp_skip' (to_k0 (fun _ _ h => h) (hK9 _ _ _ _ _ ?_))
     clear hK9
     refine wp_seq' fun K10 hK10 => ?_
     refine wp_block' ?_
     refine wp_seq' fun K11 hK11 => ?_
     refine wp_reg ?_
     refine ol_r (r_move rfl) rfl ?_
     refine ol_r (r_assign rfl) rfl ?_
     refine ol_nil (to_k0 (fun _ _ h => h) (hK11 _ _ _ _ _ ?_))
     clear hK11
     refine wp_seq' fun K12 hK12 => ?_
     refine wp_regq (by kernel_rfl) (by kernel_rfl) ?_
     refine ql_r (r_move rfl) rfl ?_
     refine ql_r (r_move rfl) rfl ?_
     refine ql_ixr hx rfl rfl sl66 (by omega) rfl fun x18 hx18 => ?_
     try simp only [Int.toNat_natCast] at hx18
     refine ql_r (r_ldw rfl (fun w1 hb1 hs1 hB1 => Rd.loads hx ty55 hx18 hb1)) rfl ?_
     refine ql_r (r_move rfl) rfl ?_
     refine ql_r (r_move rfl) rfl ?_
     refine ql_ixr hy rfl rfl sl66 (by omega) rfl fun x22 hx22 => ?_
     try simp only [Int.toNat_natCast] at hx22
     have h22 : x22 = x18 := by rw [hx18] at hx22; cases hx22; rfl
     subst h22
     refine ql_r (r_ldw rfl (fun w1 hb1 hs1 hB1 => Rd.loads hy ty55 hx22 hb1)) rfl ?_
     refine ql_r (r_nes rfl rfl (by kernel_rfl) (fun w => run_eqs (by kernel_rfl) (by kernel_rfl) w)) rfl ?_
     refine ql_nil (to_k0 (fun _ _ h => h) (hK12 _ _ _ _ _ ?_))
     clear hK12
     first | refine wp_condD rfl (fun hc24 => ?_) (fun hc24 => ?_) | refine wp_condN rfl (fun hc24 => ?_) (fun hc24 => ?_) | refine wp_condNB rfl (fun hc24 => ?_) (fun hc24 => ?_) | refine wp_cond' rfl (fun hc24 => ?_) (fun hc24 => ?_)
     ·refine wp_seq' fun K13 hK13 => ?_
      refine wp_reg ?_
      refine ol_r (r_assign rfl) rfl ?_
      refine ol_nil (to_k0 (fun _ _ h => h) (hK13 _ _ _ _ _ ?_))
      clear hK13
      refine hQ.ret (rvs1 (rv_t rfl)) (fun _ _ h => h) fun w hb hs hB hkd => ?_
      first
        | exact ⟨rfl, hb⟩
        | (exfalso; simp_all; done)
        | (exfalso; simp_all [eqs, eqV, encPart]; done)
     ·refine wp_skip' (to_k0 (fun _ _ h => h) (hK10 _ _ _ _ _ ?_))
      clear hK10
      refine wp_reg ?_
      refine ol_r (r_add rfl rfl (by omega)) rfl ?_
      refine ol_r (r_move rfl) rfl ?_
      refine ol_nil (to_k0 (fun _ _ h => h) (hK7 (k + 1) _ _ ?_ ?_ (sub_cons rfl sub_nil) (sub_cons rfl (sub_cons rfl (sub_cons rfl sub_nil))) (by exact subH_nil) subH_nil))
      ·try dsimp only
       omega
      ·try dsimp only
       omega
    ·refine wp_exit' (to_k0 (fun _ _ h => h) (hK5 _ _ _ _ _ ?_))
     clear hK5
     refine wp_seq' fun K14 hK14 => ?_
     refine wp_reg ?_
     refine ol_r (r_assign rfl) rfl ?_
     refine ol_nil (to_k0 (fun _ _ h => h) (hK14 _ _ _ _ _ ?_))
     clear hK14
     refine hQ.ret (rvs1 (rv_t rfl)) (fun _ _ h => h) fun w hb hs hB hkd => ?_
     first
       | exact ⟨rfl, hb⟩
       | (exfalso; simp_all; done)
       | (exfalso; simp_all [eqs, eqV, encPart]; done)
theorem effort_Parts (A : ActV) (w : World) (hA : A.Ok w.heap.size w) :
    Calls Try.prog 45 #[.agg #[.string A.name, .int .i64 A.sport, .int .i64 A.start, .slice A.sa A.sn A.sc, .slice A.la A.ln A.lc, .slice A.ta A.tn A.tc]] w fun e w' => ∃ b m k, e = .returned (.tuple #[.slice b m k, .int .i64 (partsR A.d).2]) ∧ Fresh encPart 55 w w' b m k (partsR A.d).1 := by
  have hln := hA.l.len
  have hlf := hA.l.fit
  refine enterQ (N := 34) (C := fun _ => True) (H := []) (B := w.heap.size) (args := [_]) Try.func45 rfl rfl rfl (Nat.le_refl _) (Sat.nil _ _) fun Q hQ => ?_
  refine wp_seq' fun K1 hK1 => ?_
  refine wp_reg ?_
  refine ol_box 1 rfl rfl rfl fun b1 => ?_
  refine ol_r (r_assign rfl) rfl ?_
  refine ol_r (r_assign rfl) rfl ?_
  refine ol_nil (to_k0 (fun _ _ h => h) (hK1 _ _ _ _ _ ?_))
  clear hK1
  refine wp_seq' fun K2 hK2 => ?_
  refine wp_seq' fun K3 hK3 => ?_
  refine wp_reg ?_
  refine ol_r (r_lda (id := 1) (n := 6) rfl rfl rfl ag51) rfl ?_
  refine ol_call rfl rfl cb80 rfl (fun w1 hb1 hs1 hB1 => Calls.mono (record_Check A _ (hA.at hb1 hB1)) ?_)
  rintro e w2 ⟨rfl, hb2⟩
  refine After.below rfl hb1 hs1 hB1 hb2 ?_
  clear hb2 hB1 hs1 hb1 w2 w1
  refine ol_r (r_assign rfl) rfl ?_
  refine ol_nil (to_k0 (fun _ _ h => h) (hK3 _ _ _ _ _ ?_))
  clear hK3
  refine wp_seq' fun K4 hK4 => ?_
  refine wp_reg ?_
  refine ol_r (r_move rfl) rfl ?_
  refine ol_r (r_neq rfl rfl) rfl ?_
  refine ol_nil (to_k0 (fun _ _ h => h) (hK4 _ _ _ _ _ ?_))
  clear hK4
  first | refine wp_condD rfl (fun hc12 => ?_) (fun hc12 => ?_) | refine wp_condN rfl (fun hc12 => ?_) (fun hc12 => ?_) | refine wp_condNB rfl (fun hc12 => ?_) (fun hc12 => ?_) | refine wp_cond' rfl (fun hc12 => ?_) (fun hc12 => ?_)
  ·refine wp_seq' fun K5 hK5 => ?_
   refine wp_reg ?_
   refine ol_r (r_move rfl) rfl ?_
   refine ol_r (r_assign rfl) rfl ?_
   refine ol_r (r_assign rfl) rfl ?_
   refine ol_nil (to_k0 (fun _ _ h => h) (hK5 _ _ _ _ _ ?_))
   clear hK5
   refine hQ.ret (rvs2 (rv_t rfl) (rv_t rfl)) (fun _ _ h => h) fun w hb hs hB hkd => ?_
   have h := partsR_e hc12
   exact ⟨none, 0, 0, by rw [h], by rw [h]; exact Fresh.nil hb⟩
  ·refine wp_skip' (to_k0 (fun _ _ h => h) (hK2 _ _ _ _ _ ?_))
   clear hK2
   refine wp_seq' fun K6 hK6 => ?_
   refine wp_reg ?_
   refine ol_r (r_lda (id := 1) (n := 6) rfl rfl rfl ag51) rfl ?_
   have h0 : chkA A.d = 0 := Decidable.not_not.1 hc12
   have hok : SmpOk A.start A.ss := (goodA h0).smp
   have hlap : ∀ x ∈ A.ls, 0 ≤ x.from_ ∧ x.from_ < x.to ∧ x.to ≤ spanL A.ss := lap_ok (a := A.d) (goodA h0)
   have hl200 : A.ls.length ≤ 200 := (goodA h0).head.2.2.2.2.1
   refine ol_call rfl rfl cb86 rfl (fun w1 hb1 hs1 hB1 => ?_)
   refine Calls.mono (effort_streams A _ (hA.at hb1 hB1) hok) ?_
   rintro e w2 ⟨a1, n1, c1, a2, n2, c2, a3, n3, c3, a4, n4, c4, a5, n5, c5, rfl, hb2, hs2⟩
   refine After.more rfl hb1 hs1 hB1 hb2 hs2 ?_
   clear hs2 hb2 hB1 hs1 hb1 w2 w1
   refine ol_alloc 5 z114 rfl fun b5 => ?_
   refine ol_store (id := 5) rfl rfl rfl rfl sz114 rfl rfl (by first | decide | exact Nat.zero_lt_succ _ | simp) ?_
   refine ol_nil (to_k0 (fun _ _ h => h) (hK6 _ _ _ _ _ ?_))
   clear hK6
   refine wp_seq' fun K7 hK7 => ?_
   refine wp_reg ?_
   refine ol_nilrow 6 55 10 ?_
   refine ol_r (r_assign rfl) rfl ?_
   refine ol_nil (to_k0 (fun _ _ h => h) (hK7 _ _ _ _ _ ?_))
   clear hK7
   refine wp_seq' fun K8 hK8 => ?_
   refine wp_seq' fun K9 hK9 => ?_
   refine wp_reg ?_
   refine ol_r (r_fa (o' := 4) rfl fl51_4 rfl) rfl ?_
   refine ol_r (r_ld (id := 1) rfl rfl rfl sc48) rfl ?_
   refine ol_r (r_len rfl sl48) rfl ?_
   refine ol_r (r_move rfl) rfl ?_
   refine ol_nil (to_k0 (fun _ _ h => h) (hK9 _ _ _ _ _ ?_))
   clear hK9
   refine wp_block' ?_
   apply wp_loopM (σ := Nat × Option Addr × Nat) (fun s => s.1 ≤ A.ls.length) (fun s => [(19, .int .i64 s.1), (6, .slice s.2.1 s.1 s.2.2)]) [(2, _), (3, _), (5, _), (17, _), (18, _)] (fun s => [(6, .row s.2.1 s.1 s.2.2 (encPart.enc ((A.ls.take s.1).map (lapPart A.ss))) 55 10)]) [(1, _), (5, _), (2001, _), (2002, _), (2003, _), (2004, _), (2005, _)] (fun s => A.ls.length - s.1) ((0, none, 0))
   ·try dsimp only
    exact Nat.zero_le _
   ·exact (sub_cons rfl (sub_cons rfl sub_nil))
   ·exact (sub_cons rfl (sub_cons rfl (sub_cons rfl (sub_cons rfl (sub_cons rfl sub_nil)))))
   ·exact (subH_row rfl (by first | (dsimp only; rfl; done) | (rfl; done) | (dsimp only; done)) subH_nil)
   ·exact (subH_same rfl (subH_same rfl (subH_same rfl (subH_same rfl (subH_same rfl (subH_same rfl (subH_same rfl subH_nil)))))))
   ·rintro ⟨k, oa, oc⟩ hk
    dsimp only at hk ⊢
    intro K10 hK10
    refine wp_seq' fun K11 hK11 => ?_
    refine wp_reg ?_
    refine ol_r (r_lss rfl rfl) rfl ?_
    refine ol_nil (to_k0 (fun _ _ h => h) (hK11 _ _ _ _ _ ?_))
    clear hK11
    refine wp_seq' fun K12 hK12 => ?_
    first | refine wp_condD rfl (fun hc20 => ?_) (fun hc20 => ?_) | refine wp_condN rfl (fun hc20 => ?_) (fun hc20 => ?_) | refine wp_condNB rfl (fun hc20 => ?_) (fun hc20 => ?_) | refine wp_cond' rfl (fun hc20 => ?_) (fun hc20 => ?_)
    ·refine wp_skip' (to_k0 (fun _ _ h => h) (hK12 _ _ _ _ _ ?_))
     clear hK12
     refine wp_seq' fun K13 hK13 => ?_
     refine wp_block' ?_
     refine wp_seq' fun K14 hK14 => ?_
     refine wp_reg ?_
     refine ol_ixr hA.l rfl rfl sl48 (by omega) rfl fun x21 hx21 => ?_
     try simp only [Int.toNat_natCast] at hx21
     refine ol_r (r_ldw rfl (fun w1 hb1 hs1 hB1 => Rd.loads hA.l ty63 hx21 hb1)) rfl ?_
     refine ol_alloc 8 z63 rfl fun b8 => ?_
     refine ol_store (id := 8) rfl rfl rfl rfl sz63 rfl rfl (by first | decide | exact Nat.zero_lt_succ _ | simp) ?_
     refine ol_nil (to_k0 (fun _ _ h => h) (hK14 _ _ _ _ _ ?_))
     clear hK14
     refine wp_reg ?_
     have hlx := hlap _ (List.mem_of_getElem? hx21)
     obtain ⟨f, hf⟩ := Int.eq_ofNat_of_zero_le (show 0 ≤ x21.from_ by omega)
     obtain ⟨t, ht⟩ := Int.eq_ofNat_of_zero_le (show 0 ≤ x21.to by omega)
     have hf' : x21.from_.toNat = f := by omega
     have ht' : x21.to.toNat = t := by omega
     have hlP : lapPart A.ss x21 = partV A.ss f t := by unfold lapPart; rw [hf', ht']
     simp only [hf, ht]
     refine ol_r (r_move rfl) rfl ?_
     refine ol_r (r_lda (id := 5) (n := 6) rfl rfl rfl ag114) rfl ?_
     refine ol_r (r_fa (o' := 0) rfl fl63_0 rfl) rfl ?_
     refine ol_r (r_ld (id := 8) rfl rfl rfl sc3) rfl ?_
     refine ol_r (r_fa (o' := 1) rfl fl63_1 rfl) rfl ?_
     refine ol_r (r_ld (id := 8) rfl rfl rfl sc3) rfl ?_
     refine ol_call rfl rfl cb85 rfl (fun w1 hb1 hs1 hB1 => Calls.mono (effort_partOf _ _ _ _ _ _ _ _ _ _ _ _ _ _ _ _ _ _ _ _ f t _ (strOk hok 1 (Sat.rd hs1 (id := 2001) rfl rfl) (by omega)) (strOk hok 2 (Sat.rd hs1 (id := 2002) rfl rfl) (by omega)) (strOk hok 3 (Sat.rd hs1 (id := 2003) rfl rfl) (by omega)) (strOk hok 4 (Sat.rd hs1 (id := 2004) rfl rfl) (by omega)) (strOk hok 5 (Sat.rd hs1 (id := 2005) rfl rfl) (by omega)) (by omega)) ?_)
     rintro e w2 ⟨rfl, hb2⟩
     refine After.below rfl hb1 hs1 hB1 hb2 ?_
     clear hb2 hB1 hs1 hb1 w2 w1
     refine ol_bs1 30 rfl rfl rw66 rfl rfl rfl fun a30 => ?_
     refine ol_append1 (id := 6) (id2 := 30) rfl rfl rfl rfl rfl rw66 (by omega) rfl fun a31 c31 => ?_
     refine ol_r (r_assign rfl) rfl ?_
     refine ol_nil (to_k0 (fun _ _ h => h) (hK13 _ _ _ _ _ ?_))
     clear hK13
     refine wp_reg ?_
     refine ol_r (r_add rfl rfl (by omega)) rfl ?_
     refine ol_r (r_move rfl) rfl ?_
     refine ol_nil (to_k0 (fun _ _ h => h) (hK10 ((k + 1, _, _)) _ _ ?_ ?_ (sub_cons rfl (sub_cons rfl sub_nil)) (sub_cons rfl (sub_cons rfl (sub_cons rfl (sub_cons rfl (sub_cons rfl sub_nil))))) (by exact (subH_row rfl (by first | (dsimp only; exact part_row hx21 hlP; done) | (exact part_row hx21 hlP; done) | (dsimp only; done)) subH_nil)) (subH_same rfl (subH_same rfl (subH_same rfl (subH_same rfl (subH_same rfl (subH_same rfl (subH_same rfl subH_nil)))))))))
     ·try dsimp only
      omega
     ·try dsimp only
      omega
    ·refine wp_exit' (to_k0 (fun _ _ h => h) (hK8 _ _ _ _ _ ?_))
     clear hK8
     refine wp_seq' fun K15 hK15 => ?_
     refine wp_reg ?_
     refine ol_r (r_move rfl) rfl ?_
     refine ol_r (r_assign rfl) rfl ?_
     refine ol_r (r_assign rfl) rfl ?_
     refine ol_nil (to_k0 (fun _ _ h => h) (hK15 _ _ _ _ _ ?_))
     clear hK15
     refine hQ.ret (rvs2 (rv_t rfl) (rv_t rfl)) (fun _ _ h => h) fun w hb hs hB hkd => ?_
     have h := partsR_0 h0
     have hk : k = A.ls.length := by omega
     subst hk
     refine ⟨_, _, _, by rw [h], hb, ?_⟩
     have h2 := hs.ok 6 _ rfl
     rw [List.take_length] at h2
     rw [h]
     exact h2
theorem ref4_Parts (A : ActV) (w : World) (hA : A.Ok w.heap.size w) :
    Calls Try.prog 46 #[.agg #[.string A.name, .int .i64 A.sport, .int .i64 A.start, .slice A.sa A.sn A.sc, .slice A.la A.ln A.lc, .slice A.ta A.tn A.tc]] w fun e w' => ∃ b m k, e = .returned (.tuple #[.slice b m k, .int .i64 (partsR A.d).2]) ∧ Fresh encPart 55 w w' b m k (partsR A.d).1 := by
  have hln := hA.l.len
  have hlf := hA.l.fit
  refine enterQ (N := 34) (C := fun _ => True) (H := []) (B := w.heap.size) (args := [_]) Try.func46 rfl rfl rfl (Nat.le_refl _) (Sat.nil _ _) fun Q hQ => ?_
  refine wp_seq' fun K1 hK1 => ?_
  refine wp_reg ?_
  refine ol_box 1 rfl rfl rfl fun b1 => ?_
  refine ol_r (r_assign rfl) rfl ?_
  refine ol_r (r_assign rfl) rfl ?_
  refine ol_nil (to_k0 (fun _ _ h => h) (hK1 _ _ _ _ _ ?_))
  clear hK1
  refine wp_seq' fun K2 hK2 => ?_
  refine wp_seq' fun K3 hK3 => ?_
  refine wp_reg ?_
  refine ol_r (r_lda (id := 1) (n := 6) rfl rfl rfl ag51) rfl ?_
  refine ol_call rfl rfl cb82 rfl (fun w1 hb1 hs1 hB1 => Calls.mono (ref2_Check A _ (hA.at hb1 hB1)) ?_)
  rintro e w2 ⟨rfl, hb2⟩
  refine After.below rfl hb1 hs1 hB1 hb2 ?_
  clear hb2 hB1 hs1 hb1 w2 w1
  refine ol_r (r_assign rfl) rfl ?_
  refine ol_nil (to_k0 (fun _ _ h => h) (hK3 _ _ _ _ _ ?_))
  clear hK3
  refine wp_seq' fun K4 hK4 => ?_
  refine wp_reg ?_
  refine ol_r (r_move rfl) rfl ?_
  refine ol_r (r_neq rfl rfl) rfl ?_
  refine ol_nil (to_k0 (fun _ _ h => h) (hK4 _ _ _ _ _ ?_))
  clear hK4
  first | refine wp_condD rfl (fun hc12 => ?_) (fun hc12 => ?_) | refine wp_condN rfl (fun hc12 => ?_) (fun hc12 => ?_) | refine wp_condNB rfl (fun hc12 => ?_) (fun hc12 => ?_) | refine wp_cond' rfl (fun hc12 => ?_) (fun hc12 => ?_)
  ·refine wp_seq' fun K5 hK5 => ?_
   refine wp_reg ?_
   refine ol_r (r_move rfl) rfl ?_
   refine ol_r (r_assign rfl) rfl ?_
   refine ol_r (r_assign rfl) rfl ?_
   refine ol_nil (to_k0 (fun _ _ h => h) (hK5 _ _ _ _ _ ?_))
   clear hK5
   refine hQ.ret (rvs2 (rv_t rfl) (rv_t rfl)) (fun _ _ h => h) fun w hb hs hB hkd => ?_
   have h := partsR_e hc12
   exact ⟨none, 0, 0, by rw [h], by rw [h]; exact Fresh.nil hb⟩
  ·refine wp_skip' (to_k0 (fun _ _ h => h) (hK2 _ _ _ _ _ ?_))
   clear hK2
   refine wp_seq' fun K6 hK6 => ?_
   refine wp_reg ?_
   refine ol_r (r_lda (id := 1) (n := 6) rfl rfl rfl ag51) rfl ?_
   have h0 : chkA A.d = 0 := Decidable.not_not.1 hc12
   have hok : SmpOk A.start A.ss := (goodA h0).smp
   have hlap : ∀ x ∈ A.ls, 0 ≤ x.from_ ∧ x.from_ < x.to ∧ x.to ≤ spanL A.ss := lap_ok (a := A.d) (goodA h0)
   have hl200 : A.ls.length ≤ 200 := (goodA h0).head.2.2.2.2.1
   refine ol_call rfl rfl cb89 rfl (fun w1 hb1 hs1 hB1 => ?_)
   refine Calls.mono (ref4_streams A _ (hA.at hb1 hB1) h0) ?_
   rintro e w2 ⟨a1, n1, c1, a2, n2, c2, a3, n3, c3, a4, n4, c4, a5, n5, c5, rfl, hb2, hs2⟩
   refine After.more rfl hb1 hs1 hB1 hb2 hs2 ?_
   clear hs2 hb2 hB1 hs1 hb1 w2 w1
   refine ol_alloc 5 z114 rfl fun b5 => ?_
   refine ol_store (id := 5) rfl rfl rfl rfl sz114 rfl rfl (by first | decide | exact Nat.zero_lt_succ _ | simp) ?_
   refine ol_nil (to_k0 (fun _ _ h => h) (hK6 _ _ _ _ _ ?_))
   clear hK6
   refine wp_seq' fun K7 hK7 => ?_
   refine wp_reg ?_
   refine ol_nilrow 6 55 10 ?_
   refine ol_r (r_assign rfl) rfl ?_
   refine ol_nil (to_k0 (fun _ _ h => h) (hK7 _ _ _ _ _ ?_))
   clear hK7
   refine wp_seq' fun K8 hK8 => ?_
   refine wp_seq' fun K9 hK9 => ?_
   refine wp_reg ?_
   refine ol_r (r_fa (o' := 4) rfl fl51_4 rfl) rfl ?_
   refine ol_r (r_ld (id := 1) rfl rfl rfl sc48) rfl ?_
   refine ol_r (r_len rfl sl48) rfl ?_
   refine ol_r (r_move rfl) rfl ?_
   refine ol_nil (to_k0 (fun _ _ h => h) (hK9 _ _ _ _ _ ?_))
   clear hK9
   refine wp_block' ?_
   apply wp_loopM (σ := Nat × Option Addr × Nat) (fun s => s.1 ≤ A.ls.length) (fun s => [(19, .int .i64 s.1), (6, .slice s.2.1 s.1 s.2.2)]) [(2, _), (3, _), (5, _), (17, _), (18, _)] (fun s => [(6, .row s.2.1 s.1 s.2.2 (encPart.enc ((A.ls.take s.1).map (lapPart A.ss))) 55 10)]) [(1, _), (5, _), (2001, _), (2002, _), (2003, _), (2004, _), (2005, _)] (fun s => A.ls.length - s.1) ((0, none, 0))
   ·try dsimp only
    exact Nat.zero_le _
   ·exact (sub_cons rfl (sub_cons rfl sub_nil))
   ·exact (sub_cons rfl (sub_cons rfl (sub_cons rfl (sub_cons rfl (sub_cons rfl sub_nil)))))
   ·exact (subH_row rfl (by first | (dsimp only; rfl; done) | (rfl; done) | (dsimp only; done)) subH_nil)
   ·exact (subH_same rfl (subH_same rfl (subH_same rfl (subH_same rfl (subH_same rfl (subH_same rfl (subH_same rfl subH_nil)))))))
   ·rintro ⟨k, oa, oc⟩ hk
    dsimp only at hk ⊢
    intro K10 hK10
    refine wp_seq' fun K11 hK11 => ?_
    refine wp_reg ?_
    refine ol_r (r_lss rfl rfl) rfl ?_
    refine ol_nil (to_k0 (fun _ _ h => h) (hK11 _ _ _ _ _ ?_))
    clear hK11
    refine wp_seq' fun K12 hK12 => ?_
    first | refine wp_condD rfl (fun hc20 => ?_) (fun hc20 => ?_) | refine wp_condN rfl (fun hc20 => ?_) (fun hc20 => ?_) | refine wp_condNB rfl (fun hc20 => ?_) (fun hc20 => ?_) | refine wp_cond' rfl (fun hc20 => ?_) (fun hc20 => ?_)
    ·refine wp_skip' (to_k0 (fun _ _ h => h) (hK12 _ _ _ _ _ ?_))
     clear hK12
     refine wp_seq' fun K13 hK13 => ?_
     refine wp_block' ?_
     refine wp_seq' fun K14 hK14 => ?_
     refine wp_reg ?_
     refine ol_ixr hA.l rfl rfl sl48 (by omega) rfl fun x21 hx21 => ?_
     try simp only [Int.toNat_natCast] at hx21
     refine ol_r (r_ldw rfl (fun w1 hb1 hs1 hB1 => Rd.loads hA.l ty63 hx21 hb1)) rfl ?_
     refine ol_alloc 8 z63 rfl fun b8 => ?_
     refine ol_store (id := 8) rfl rfl rfl rfl sz63 rfl rfl (by first | decide | exact Nat.zero_lt_succ _ | simp) ?_
     refine ol_nil (to_k0 (fun _ _ h => h) (hK14 _ _ _ _ _ ?_))
     clear hK14
     refine wp_reg ?_
     have hlx := hlap _ (List.mem_of_getElem? hx21)
     obtain ⟨f, hf⟩ := Int.eq_ofNat_of_zero_le (show 0 ≤ x21.from_ by omega)
     obtain ⟨t, ht⟩ := Int.eq_ofNat_of_zero_le (show 0 ≤ x21.to by omega)
     have hf' : x21.from_.toNat = f := by omega
     have ht' : x21.to.toNat = t := by omega
     have hlP : lapPart A.ss x21 = partV A.ss f t := by unfold lapPart; rw [hf', ht']
     simp only [hf, ht]
     refine ol_r (r_move rfl) rfl ?_
     refine ol_r (r_lda (id := 5) (n := 6) rfl rfl rfl ag114) rfl ?_
     refine ol_r (r_fa (o' := 0) rfl fl63_0 rfl) rfl ?_
     refine ol_r (r_ld (id := 8) rfl rfl rfl sc3) rfl ?_
     refine ol_r (r_fa (o' := 1) rfl fl63_1 rfl) rfl ?_
     refine ol_r (r_ld (id := 8) rfl rfl rfl sc3) rfl ?_
     refine ol_call rfl rfl cb88 rfl (fun w1 hb1 hs1 hB1 => Calls.mono (ref4_partOf _ _ _ _ _ _ _ _ _ _ _ _ _ _ _ _ _ _ _ _ f t _ (strOk hok 1 (Sat.rd hs1 (id := 2001) rfl rfl) (by omega)) (strOk hok 2 (Sat.rd hs1 (id := 2002) rfl rfl) (by omega)) (strOk hok 3 (Sat.rd hs1 (id := 2003) rfl rfl) (by omega)) (strOk hok 4 (Sat.rd hs1 (id := 2004) rfl rfl) (by omega)) (strOk hok 5 (Sat.rd hs1 (id := 2005) rfl rfl) (by omega)) (by omega)) ?_)
     rintro e w2 ⟨rfl, hb2⟩
     refine After.below rfl hb1 hs1 hB1 hb2 ?_
     clear hb2 hB1 hs1 hb1 w2 w1
     refine ol_bs1 30 rfl rfl rw66 rfl rfl rfl fun a30 => ?_
     refine ol_append1 (id := 6) (id2 := 30) rfl rfl rfl rfl rfl rw66 (by omega) rfl fun a31 c31 => ?_
     refine ol_r (r_assign rfl) rfl ?_
     refine ol_nil (to_k0 (fun _ _ h => h) (hK13 _ _ _ _ _ ?_))
     clear hK13
     refine wp_reg ?_
     refine ol_r (r_add rfl rfl (by omega)) rfl ?_
     refine ol_r (r_move rfl) rfl ?_
     refine ol_nil (to_k0 (fun _ _ h => h) (hK10 ((k + 1, _, _)) _ _ ?_ ?_ (sub_cons rfl (sub_cons rfl sub_nil)) (sub_cons rfl (sub_cons rfl (sub_cons rfl (sub_cons rfl (sub_cons rfl sub_nil))))) (by exact (subH_row rfl (by first | (dsimp only; exact part_row hx21 hlP; done) | (exact part_row hx21 hlP; done) | (dsimp only; done)) subH_nil)) (subH_same rfl (subH_same rfl (subH_same rfl (subH_same rfl (subH_same rfl (subH_same rfl (subH_same rfl subH_nil)))))))))
     ·try dsimp only
      omega
     ·try dsimp only
      omega
    ·refine wp_exit' (to_k0 (fun _ _ h => h) (hK8 _ _ _ _ _ ?_))
     clear hK8
     refine wp_seq' fun K15 hK15 => ?_
     refine wp_reg ?_
     refine ol_r (r_move rfl) rfl ?_
     refine ol_r (r_assign rfl) rfl ?_
     refine ol_r (r_assign rfl) rfl ?_
     refine ol_nil (to_k0 (fun _ _ h => h) (hK15 _ _ _ _ _ ?_))
     clear hK15
     refine hQ.ret (rvs2 (rv_t rfl) (rv_t rfl)) (fun _ _ h => h) fun w hb hs hB hkd => ?_
     have h := partsR_0 h0
     have hk : k = A.ls.length := by omega
     subst hk
     refine ⟨_, _, _, by rw [h], hb, ?_⟩
     have h2 := hs.ok 6 _ rfl
     rw [List.take_length] at h2
     rw [h]
     exact h2
theorem law_parts (A : ActV) (f t : Int) (w : World) (hA : A.Ok w.heap.size w) :
    Calls Try.prog 10 #[.agg #[.string A.name, .int .i64 A.sport, .int .i64 A.start, .slice A.sa A.sn A.sc, .slice A.la A.ln A.lc, .slice A.ta A.tn A.tc], .int .i64 f, .int .i64 t] w fun e w' => e = .returned (.bool true) ∧ Below w.heap.size w w' := by
  refine enterQ (N := 60) (C := fun _ => True) (H := []) (B := w.heap.size) (args := [_, _, _]) Try.func10 rfl rfl rfl (Nat.le_refl _) (Sat.nil _ _) fun Q hQ => ?_
  refine wp_seq' fun K1 hK1 => ?_
  refine wp_reg ?_
  refine ol_box 3 rfl rfl rfl fun b3 => ?_
  refine ol_r (r_assign rfl) rfl ?_
  refine ol_nil (to_k0 (fun _ _ h => h) (hK1 _ _ _ _ _ ?_))
  clear hK1
  refine wp_seq' fun K2 hK2 => ?_
  refine wp_reg ?_
  refine ol_r (r_lda (id := 3) (n := 6) rfl rfl rfl ag51) rfl ?_
  refine ol_r (r_move rfl) rfl ?_
  refine ol_r (r_move rfl) rfl ?_
  refine ol_call rfl rfl cb38 rfl (fun w1 hb1 hs1 hB1 => Calls.mono (effort_PartOf A f t _ (hA.at hb1 hB1)) ?_)
  rintro e w2 ⟨rfl, hb2⟩
  refine After.below rfl hb1 hs1 hB1 hb2 ?_
  clear hb2 hB1 hs1 hb1 w2 w1
  refine ol_r (r_move rfl) rfl ?_
  refine ol_r (r_extract rfl rfl) rfl ?_
  refine ol_r (r_extract rfl rfl) rfl ?_
  refine ol_alloc 7 z55 rfl fun b7 => ?_
  refine ol_store (id := 7) rfl rfl rfl rfl sz55 rfl rfl (by first | decide | exact Nat.zero_lt_succ _ | simp) ?_
  refine ol_r (r_assign rfl) rfl ?_
  refine ol_nil (to_k0 (fun _ _ h => h) (hK2 _ _ _ _ _ ?_))
  clear hK2
  refine wp_seq' fun K3 hK3 => ?_
  refine wp_reg ?_
  refine ol_r (r_lda (id := 3) (n := 6) rfl rfl rfl ag51) rfl ?_
  refine ol_r (r_move rfl) rfl ?_
  refine ol_r (r_move rfl) rfl ?_
  refine ol_call rfl rfl cb39 rfl (fun w1 hb1 hs1 hB1 => Calls.mono (ref4_PartOf A f t _ (hA.at hb1 hB1)) ?_)
  rintro e w2 ⟨rfl, hb2⟩
  refine After.below rfl hb1 hs1 hB1 hb2 ?_
  clear hb2 hB1 hs1 hb1 w2 w1
  refine ol_r (r_move rfl) rfl ?_
  refine ol_r (r_extract rfl rfl) rfl ?_
  refine ol_r (r_extract rfl rfl) rfl ?_
  refine ol_alloc 9 z55 rfl fun b9 => ?_
  refine ol_store (id := 9) rfl rfl rfl rfl sz55 rfl rfl (by first | decide | exact Nat.zero_lt_succ _ | simp) ?_
  refine ol_r (r_assign rfl) rfl ?_
  refine ol_nil (to_k0 (fun _ _ h => h) (hK3 _ _ _ _ _ ?_))
  clear hK3
  refine wp_seq' fun K4 hK4 => ?_
  refine wp_reg ?_
  refine ol_r (r_lda (id := 3) (n := 6) rfl rfl rfl ag51) rfl ?_
  refine ol_call rfl rfl cb45 rfl (fun w1 hb1 hs1 hB1 => Calls.mono (effort_Parts A _ (hA.at hb1 hB1)) ?_)
  rintro e w2 ⟨a31, n31, c31, rfl, hf31⟩
  refine After.fresh (id := 31) rfl hb1 hs1 hB1 hf31 ?_
  have hl31 := hf31.len; clear hf31 hB1 hs1 hb1 w2 w1
  refine ol_r (r_move rfl) rfl ?_
  refine ol_r (r_extract rfl rfl) rfl ?_
  refine ol_r (r_extract rfl rfl) rfl ?_
  refine ol_r (r_assign rfl) rfl ?_
  refine ol_r (r_assign rfl) rfl ?_
  refine ol_nil (to_k0 (fun _ _ h => h) (hK4 _ _ _ _ _ ?_))
  clear hK4
  refine wp_seq' fun K5 hK5 => ?_
  refine wp_reg ?_
  refine ol_r (r_lda (id := 3) (n := 6) rfl rfl rfl ag51) rfl ?_
  refine ol_call rfl rfl cb46 rfl (fun w1 hb1 hs1 hB1 => Calls.mono (ref4_Parts A _ (hA.at hb1 hB1)) ?_)
  rintro e w2 ⟨a36, n36, c36, rfl, hf36⟩
  refine After.fresh (id := 36) rfl hb1 hs1 hB1 hf36 ?_
  have hl36 := hf36.len; clear hf36 hB1 hs1 hb1 w2 w1
  refine ol_r (r_move rfl) rfl ?_
  refine ol_r (r_extract rfl rfl) rfl ?_
  refine ol_r (r_extract rfl rfl) rfl ?_
  refine ol_r (r_assign rfl) rfl ?_
  refine ol_r (r_assign rfl) rfl ?_
  refine ol_nil (to_k0 (fun _ _ h => h) (hK5 _ _ _ _ _ ?_))
  clear hK5
  refine wp_seq' fun K6 hK6 => ?_
  refine wp_reg ?_
  refine ol_r (r_lda (id := 7) (n := 10) rfl rfl rfl ag55) rfl ?_
  refine ol_r (r_lda (id := 9) (n := 10) rfl rfl rfl ag55) rfl ?_
  refine ol_r (r_eqs rfl rfl (by kernel_rfl) (fun w => run_eqs (by kernel_rfl) (by kernel_rfl) w)) rfl ?_
  refine ol_r (r_move rfl) rfl ?_
  refine ol_split (d := 42) rfl (fun hs42 => ?_) (fun hs42 => ?_)
  ·have phs42 := hs42; try simp only [decide_eq_true_eq, decide_eq_false_iff_not, Bool.not_eq_true', Bool.not_eq_false', Bool.not_true, Bool.not_false] at phs42
   refine ol_g rfl rfl hs42 ?_
   refine ol_r (r_move rfl) rfl ?_
   refine ol_g rfl rfl hs42 ?_
   refine ol_r (r_move rfl) rfl ?_
   refine ol_g rfl rfl hs42 ?_
   refine ol_r (r_eql rfl rfl) rfl ?_
   refine ol_r (r_pickT rfl hs42 rfl) rfl ?_
   refine ol_r (r_move rfl) rfl ?_
   refine ol_split (d := 47) rfl (fun hs47 => ?_) (fun hs47 => ?_)
   ·have phs47 := hs47; try simp only [decide_eq_true_eq, decide_eq_false_iff_not, Bool.not_eq_true', Bool.not_eq_false', Bool.not_true, Bool.not_false] at phs47
    refine ol_g rfl rfl hs47 ?_
    refine ol_r (r_move rfl) rfl ?_
    refine ol_g rfl rfl hs47 ?_
    refine ol_r (r_move rfl) rfl ?_
    refine ol_g rfl rfl hs47 ?_
    refine ol_call rfl rfl cb47 rfl (fun w1 hb1 hs1 hB1 => ?_)
    have hnn : n36 = n31 := by rw [← hl36, ← hl31]
    subst hnn
    refine Calls.mono (equal_part_same _ _ _ _ _ (partsR A.d).1 _ (Sat.rd hs1 (id := 31) rfl rfl) (Sat.rd hs1 (id := 36) rfl rfl)) ?_
    rintro e w2 ⟨rfl, hb2⟩
    refine After.below rfl hb1 hs1 hB1 hb2 ?_
    clear hb2 hB1 hs1 hb1 w2 w1
    refine ol_r (r_pickT rfl hs47 rfl) rfl ?_
    refine ol_r (r_move rfl) rfl ?_
    refine ol_split (d := 52) rfl (fun hs52 => ?_) (fun hs52 => ?_)
    ·have phs52 := hs52; try simp only [decide_eq_true_eq, decide_eq_false_iff_not, Bool.not_eq_true', Bool.not_eq_false', Bool.not_true, Bool.not_false] at phs52
     refine ol_g rfl rfl hs52 ?_
     refine ol_r (r_move rfl) rfl ?_
     refine ol_g rfl rfl hs52 ?_
     refine ol_r (r_move rfl) rfl ?_
     refine ol_g rfl rfl hs52 ?_
     refine ol_r (r_eql rfl rfl) rfl ?_
     refine ol_r (r_pickT rfl hs52 rfl) rfl ?_
     refine ol_r (r_move rfl) rfl ?_
     refine ol_split (d := 57) rfl (fun hs57 => ?_) (fun hs57 => ?_)
     ·have phs57 := hs57; try simp only [decide_eq_true_eq, decide_eq_false_iff_not, Bool.not_eq_true', Bool.not_eq_false', Bool.not_true, Bool.not_false] at phs57
      refine ol_g rfl rfl hs57 ?_
      refine ol_call rfl rfl cb16 rfl (fun w1 hb1 hs1 hB1 => Calls.mono (effort_told _) ?_)
      rintro e w2 ⟨rfl, hb2⟩
      refine After.below rfl hb1 hs1 hB1 hb2 ?_
      clear hb2 hB1 hs1 hb1 w2 w1
      refine ol_r (r_pickT rfl hs57 rfl) rfl ?_
      refine ol_r (r_assign rfl) rfl ?_
      refine ol_nil (to_k0 (fun _ _ h => h) (hK6 _ _ _ _ _ ?_))
      clear hK6
      refine hQ.ret (rvs1 (rv_t rfl)) (fun _ _ h => h) fun w hb hs hB hkd => ?_
      first
        | exact ⟨rfl, hb⟩
        | (exfalso; exact phs57 trivial)
        | (exfalso; exact phs47 trivial)
        | (exfalso; cases phs52; done)
        | (exfalso; simp [eqs, eqV] at phs42; done)
     ·have phs57 := hs57; try simp only [decide_eq_true_eq, decide_eq_false_iff_not, Bool.not_eq_true', Bool.not_eq_false', Bool.not_true, Bool.not_false] at phs57
      refine ol_s rfl rfl hs57 rfl ?_
      refine ol_r (r_pickF rfl hs57 rfl) rfl ?_
      refine ol_r (r_assign rfl) rfl ?_
      refine ol_nil (to_k0 (fun _ _ h => h) (hK6 _ _ _ _ _ ?_))
      clear hK6
      refine hQ.ret (rvs1 (rv_t rfl)) (fun _ _ h => h) fun w hb hs hB hkd => ?_
      first
        | exact ⟨rfl, hb⟩
        | (exfalso; exact phs57 trivial)
        | (exfalso; exact phs47 trivial)
        | (exfalso; cases phs52; done)
        | (exfalso; simp [eqs, eqV] at phs42; done)
    ·have phs52 := hs52; try simp only [decide_eq_true_eq, decide_eq_false_iff_not, Bool.not_eq_true', Bool.not_eq_false', Bool.not_true, Bool.not_false] at phs52
     refine ol_s rfl rfl hs52 rfl ?_
     refine ol_s rfl rfl hs52 rfl ?_
     refine ol_s rfl rfl hs52 rfl ?_
     refine ol_r (r_pickF rfl hs52 rfl) rfl ?_
     refine ol_r (r_move rfl) rfl ?_
     refine ol_s rfl rfl rfl rfl ?_
     refine ol_r (r_pickF rfl rfl rfl) rfl ?_
     refine ol_r (r_assign rfl) rfl ?_
     refine ol_nil (to_k0 (fun _ _ h => h) (hK6 _ _ _ _ _ ?_))
     clear hK6
     refine hQ.ret (rvs1 (rv_t rfl)) (fun _ _ h => h) fun w hb hs hB hkd => ?_
     first
       | exact ⟨rfl, hb⟩
       | (exfalso; exact phs57 trivial)
       | (exfalso; exact phs47 trivial)
       | (exfalso; cases phs52; done)
       | (exfalso; simp [eqs, eqV] at phs42; done)
   ·have phs47 := hs47; try simp only [decide_eq_true_eq, decide_eq_false_iff_not, Bool.not_eq_true', Bool.not_eq_false', Bool.not_true, Bool.not_false] at phs47
    refine ol_s rfl rfl hs47 rfl ?_
    refine ol_s rfl rfl hs47 rfl ?_
    refine ol_s rfl rfl hs47 rfl ?_
    refine ol_r (r_pickF rfl hs47 rfl) rfl ?_
    refine ol_r (r_move rfl) rfl ?_
    refine ol_s rfl rfl rfl rfl ?_
    refine ol_s rfl rfl rfl rfl ?_
    refine ol_s rfl rfl rfl rfl ?_
    refine ol_r (r_pickF rfl rfl rfl) rfl ?_
    refine ol_r (r_move rfl) rfl ?_
    refine ol_s rfl rfl rfl rfl ?_
    refine ol_r (r_pickF rfl rfl rfl) rfl ?_
    refine ol_r (r_assign rfl) rfl ?_
    refine ol_nil (to_k0 (fun _ _ h => h) (hK6 _ _ _ _ _ ?_))
    clear hK6
    refine hQ.ret (rvs1 (rv_t rfl)) (fun _ _ h => h) fun w hb hs hB hkd => ?_
    first
      | exact ⟨rfl, hb⟩
      | (exfalso; exact phs57 trivial)
      | (exfalso; exact phs47 trivial)
      | (exfalso; cases phs52; done)
      | (exfalso; simp [eqs, eqV] at phs42; done)
  ·have phs42 := hs42; try simp only [decide_eq_true_eq, decide_eq_false_iff_not, Bool.not_eq_true', Bool.not_eq_false', Bool.not_true, Bool.not_false] at phs42
   refine ol_s rfl rfl hs42 rfl ?_
   refine ol_s rfl rfl hs42 rfl ?_
   refine ol_s rfl rfl hs42 rfl ?_
   refine ol_r (r_pickF rfl hs42 rfl) rfl ?_
   refine ol_r (r_move rfl) rfl ?_
   refine ol_s rfl rfl rfl rfl ?_
   refine ol_s rfl rfl rfl rfl ?_
   refine ol_s rfl rfl rfl rfl ?_
   refine ol_r (r_pickF rfl rfl rfl) rfl ?_
   refine ol_r (r_move rfl) rfl ?_
   refine ol_s rfl rfl rfl rfl ?_
   refine ol_s rfl rfl rfl rfl ?_
   refine ol_s rfl rfl rfl rfl ?_
   refine ol_r (r_pickF rfl rfl rfl) rfl ?_
   refine ol_r (r_move rfl) rfl ?_
   refine ol_s rfl rfl rfl rfl ?_
   refine ol_r (r_pickF rfl rfl rfl) rfl ?_
   refine ol_r (r_assign rfl) rfl ?_
   refine ol_nil (to_k0 (fun _ _ h => h) (hK6 _ _ _ _ _ ?_))
   clear hK6
   refine hQ.ret (rvs1 (rv_t rfl)) (fun _ _ h => h) fun w hb hs hB hkd => ?_
   first
     | exact ⟨rfl, hb⟩
     | (exfalso; exact phs57 trivial)
     | (exfalso; exact phs47 trivial)
     | (exfalso; cases phs52; done)
     | (exfalso; simp [eqs, eqV] at phs42; done)
end Go.Proofs.Ytafkojlccknicaa
