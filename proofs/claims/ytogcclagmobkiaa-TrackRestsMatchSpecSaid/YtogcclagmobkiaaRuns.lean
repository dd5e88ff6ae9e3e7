/-
  Idle and Still: the program.
-/
import Derived.Test.YtogcclagmobkiaaRest3M
import Derived.Test.YtogcclagmobkiaaSpan
import Derived.Test.YtogcclagmobkiaaSteps
import Derived.Test.YtogcclagmobkiaaRoot
import Derived.Test.YtogcclagmobkiaaOrA
import Derived.Test.YtogcclagmobkiaaCheckP
import Derived.Test.YtogcclagmobkiaaHg
import Derived.Test.YtogcclagmobkiaaHs
namespace Go.Proofs.Ytogcclagmobkiaa
open Go Go.RowKit Hx
set_option linter.unusedVariables false
set_option linter.unusedSimpArgs false
set_option maxRecDepth 8000
def idleM (ss : List SmpR) (gap : Int) (k : Nat) : Bool := match (stepsL ss)[k]? with | some x => decide (gap < x.2.at_ - x.1.at_) | none => false
noncomputable def stillM (ss : List SmpR) (slow : Int) (k : Nat) : Bool := match (stepsL ss)[k]? with | some x => decide (lenD x.1 x.2 ≤ slow * (x.2.at_ - x.1.at_)) | none => false
theorem idleM_get {ss : List SmpR} {gap : Int} {k : Nat} {x : SmpR × SmpR} (h : (stepsL ss)[k]? = some x) : idleM ss gap k = decide (gap < x.2.at_ - x.1.at_) := by unfold idleM; rw [h]
theorem stillM_get {ss : List SmpR} {slow : Int} {k : Nat} {x : SmpR × SmpR} (h : (stepsL ss)[k]? = some x) : stillM ss slow k = decide (lenD x.1 x.2 ≤ slow * (x.2.at_ - x.1.at_)) := by unfold stillM; rw [h]
def OutP (B : Nat) (w' : World) (L : List SpanR) (e : Ending) : Prop := ∃ a c, e = .returned (.slice a L.length c) ∧ Sat B w' [(1001, .row a L.length c (encSpan.enc L) 54 2)]
def OutT (B : Nat) (w' : World) (r : List SpanR × Int) (e : Ending) : Prop := ∃ a c, e = .returned (.tuple #[.slice a r.1.length c, .int .i64 r.2]) ∧ Sat B w' [(1001, .row a r.1.length c (encSpan.enc r.1) 54 2)]
theorem outT_no {B : Nat} {w' : World} {r : List SpanR × Int} {er : Int} (h : r = ([], er)) : OutT B w' r (.returned (.tuple #[.slice none 0 0, .int .i64 er])) := by
  subst h
  exact ⟨none, 0, rfl, (Sat.nil _ _).nilRow 1001 _ _⟩
theorem track_idle1 (x y : SmpR) (bb : Nat) (gap : Int) (w : World) (hk : Blk w.heap.size w bb [(0, .int .i64 gap)]) (hx : 0 ≤ x.at_ ∧ x.at_ ≤ 1000000) (hy : 0 ≤ y.at_ ∧ y.at_ ≤ 1000000) :
    Calls Try.prog 114 ([encSmp.val x, encSmp.val y] ++ [Value.pointer (some ⟨bb, 0, none⟩)]).toArray w fun e w' => e = .returned (.bool (decide (gap < y.at_ - x.at_))) ∧ Below w.heap.size w w' := by
  refine enterQ (N := 13) (C := fun _ => True) (H := []) (B := w.heap.size) (args := [_, _, _]) Try.func114 rfl rfl rfl (Nat.le_refl _) (Sat.nil _ _) fun Q hQ => ?_
  refine wp_seq' fun K1 hK1 => ?_
  refine wp_reg ?_
  refine ol_box 3 rfl rfl rfl fun b3 => ?_
  refine ol_box 4 rfl rfl rfl fun b4 => ?_
  refine ol_r (r_assign rfl) rfl ?_
  refine ol_nil (to_k0 (fun _ _ h => h) (hK1 _ _ _ _ _ ?_))
  clear hK1
  refine wp_seq' fun K2 hK2 => ?_
  refine wp_reg ?_
  refine ol_r (r_fa (o' := 0) rfl fl28_0 rfl) rfl ?_
  refine ol_r (r_ld (id := 4) rfl rfl rfl sc3) rfl ?_
  refine ol_r (r_fa (o' := 0) rfl fl28_0 rfl) rfl ?_
  refine ol_r (r_ld (id := 3) rfl rfl rfl sc3) rfl ?_
  refine ol_r (r_sub rfl rfl (by omega)) rfl ?_
  refine ol_r (r_ldw rfl (fun w1 hb1 hs1 hB1 => Blk.loads (o := 0) hk hb1 sc3 rfl)) rfl ?_
  refine ol_r (r_gtr rfl rfl) rfl ?_
  refine ol_r (r_assign rfl) rfl ?_
  refine ol_nil (to_k0 (fun _ _ h => h) (hK2 _ _ _ _ _ ?_))
  clear hK2
  refine hQ.ret (rvs1 (rv_t rfl)) (fun _ _ h => h) fun w hb hs hB hkd => ?_
  exact ⟨rfl, hb⟩
theorem slow_bd {slow d : Int} (hs : 0 ≤ slow ∧ slow ≤ 100000) (hd : -1000000 ≤ d ∧ d ≤ 1000000) : -100000000000 ≤ slow * d ∧ slow * d ≤ 100000000000 := by
  by_cases h : 0 ≤ d
  · have h1 := Int.mul_nonneg hs.1 h
    have h2 := Int.mul_le_mul hs.2 hd.2 h (by omega)
    omega
  · have h1 := Int.mul_nonneg hs.1 (show 0 ≤ -d by omega)
    have h2 := Int.mul_le_mul hs.2 (show -d ≤ 1000000 by omega) (by omega) (by omega)
    rw [Int.mul_neg] at h1 h2
    omega
theorem track_still1 (x y : SmpR) (bb : Nat) (slow : Int) (w : World) (hk : Blk w.heap.size w bb [(0, .int .i64 slow)]) (hs0 : 0 ≤ slow ∧ slow ≤ 100000) (hx : 0 ≤ x.at_ ∧ x.at_ ≤ 1000000) (hy : 0 ≤ y.at_ ∧ y.at_ ≤ 1000000) (hp : PlaceOk x) (hq : PlaceOk y) :
    Calls Try.prog 115 ([encSmp.val x, encSmp.val y] ++ [Value.pointer (some ⟨bb, 0, none⟩)]).toArray w fun e w' => e = .returned (.bool (decide (lenD x y ≤ slow * (y.at_ - x.at_)))) ∧ Below w.heap.size w w' := by
  have hsd := slow_bd hs0 (show -1000000 ≤ y.at_ - x.at_ ∧ y.at_ - x.at_ ≤ 1000000 by omega)
  refine enterQ (N := 17) (C := fun _ => True) (H := []) (B := w.heap.size) (args := [_, _, _]) Try.func115 rfl rfl rfl (Nat.le_refl _) (Sat.nil _ _) fun Q hQ => ?_
  refine wp_seq' fun K1 hK1 => ?_
  refine wp_reg ?_
  refine ol_box 3 rfl rfl rfl fun b3 => ?_
  refine ol_box 4 rfl rfl rfl fun b4 => ?_
  refine ol_r (r_assign rfl) rfl ?_
  refine ol_nil (to_k0 (fun _ _ h => h) (hK1 _ _ _ _ _ ?_))
  clear hK1
  refine wp_seq' fun K2 hK2 => ?_
  refine wp_regq (by kernel_rfl) (by kernel_rfl) ?_
  refine ql_r (r_lda (id := 3) (n := 7) rfl rfl rfl ag28) rfl ?_
  refine ql_r (r_lda (id := 4) (n := 7) rfl rfl rfl ag28) rfl ?_
  refine ql_call rfl rfl cb116 rfl (fun w1 hb1 hs1 hB1 => track_length x y _ hp hq) ?_
  refine ql_r (r_ldw rfl (fun w1 hb1 hs1 hB1 => Blk.loads (o := 0) hk hb1 sc3 rfl)) rfl ?_
  refine ql_r (r_fa (o' := 0) rfl fl28_0 rfl) rfl ?_
  refine ql_r (r_ld (id := 4) rfl rfl rfl sc3) rfl ?_
  refine ql_r (r_fa (o' := 0) rfl fl28_0 rfl) rfl ?_
  refine ql_r (r_ld (id := 3) rfl rfl rfl sc3) rfl ?_
  refine ql_r (r_sub rfl rfl (by omega)) rfl ?_
  refine ql_r (r_mul rfl rfl (by omega)) rfl ?_
  refine ql_r (r_leq rfl rfl) rfl ?_
  refine ql_r (r_assign rfl) rfl ?_
  refine ql_nil (to_k0 (fun _ _ h => h) (hK2 _ _ _ _ _ ?_))
  clear hK2
  refine hQ.ret (rvs1 (rv_t rfl)) (fun _ _ h => h) fun w hb hs hB hkd => ?_
  exact ⟨rfl, hb⟩
theorem track_rows1 (x : SpanR) (least : Int) (bb : Nat) (w : World) (hk : Blk w.heap.size w bb [(0, .int .i64 least)]) (hx : 0 ≤ x.from_ ∧ x.from_ ≤ 1000000) (hy : -1 ≤ x.to ∧ x.to ≤ 1000000) :
    Calls Try.prog 138 ([encSpan.val x] ++ [Value.pointer (some ⟨bb, 0, none⟩)]).toArray w fun e w' => e = .returned (.bool (decide (x.to - x.from_ + 1 < least))) ∧ Below w.heap.size w w' := by
  refine enterQ (N := 12) (C := fun _ => True) (H := []) (B := w.heap.size) (args := [_, _]) Try.func138 rfl rfl rfl (Nat.le_refl _) (Sat.nil _ _) fun Q hQ => ?_
  refine wp_seq' fun K1 hK1 => ?_
  refine wp_reg ?_
  refine ol_box 2 rfl rfl rfl fun b2 => ?_
  refine ol_r (r_assign rfl) rfl ?_
  refine ol_nil (to_k0 (fun _ _ h => h) (hK1 _ _ _ _ _ ?_))
  clear hK1
  refine wp_seq' fun K2 hK2 => ?_
  refine wp_reg ?_
  refine ol_r (r_fa (o' := 1) rfl fl54_1 rfl) rfl ?_
  refine ol_r (r_ld (id := 2) rfl rfl rfl sc3) rfl ?_
  refine ol_r (r_fa (o' := 0) rfl fl54_0 rfl) rfl ?_
  refine ol_r (r_ld (id := 2) rfl rfl rfl sc3) rfl ?_
  refine ol_r (r_sub rfl rfl (by omega)) rfl ?_
  refine ol_r (r_add rfl rfl (by omega)) rfl ?_
  refine ol_r (r_ldw rfl (fun w1 hb1 hs1 hB1 => Blk.loads (o := 0) hk hb1 sc3 rfl)) rfl ?_
  refine ol_r (r_lss rfl rfl) rfl ?_
  refine ol_r (r_assign rfl) rfl ?_
  refine ol_nil (to_k0 (fun _ _ h => h) (hK2 _ _ _ _ _ ?_))
  clear hK2
  refine hQ.ret (rvs1 (rv_t rfl)) (fun _ _ h => h) fun w hb hs hB hkd => ?_
  exact ⟨rfl, hb⟩
theorem rows_bd {st : Int} {ss : List SmpR} (h : SmpOk st ss) {m : Nat → Bool} {k : Nat} {x : SpanR} (hx : x ∈ rowsS ss m k) : (0 ≤ x.from_ ∧ x.from_ ≤ 1000000) ∧ (-1 ≤ x.to ∧ x.to ≤ 1000000) := by
  obtain ⟨i, hi⟩ := List.mem_iff_getElem?.1 hx
  obtain ⟨p, hp, rfl⟩ := rowsS_get hi
  have h1 := atN_bd h p.1
  have h2 := atN_bd h p.2
  unfold spanO
  dsimp only
  omega
theorem track_rows (A : ActV) (m : Nat → Bool) (g bb : Nat) (v least : Int) (w : World) (hA : A.Ok w.heap.size w) (hok : SmpOk A.start A.ss) (hk : Blk w.heap.size w bb [(0, .int .i64 v)]) (hg : Callable Try.prog g)
    (hf : ∀ (k : Nat) (x : SmpR × SmpR) (w' : World), (stepsL A.ss)[k]? = some x → Blk w'.heap.size w' bb [(0, .int .i64 v)] → Calls Try.prog g ([encSmp.val x.1, encSmp.val x.2] ++ [Value.pointer (some ⟨bb, 0, none⟩)]).toArray w' fun e w2 => e = .returned (.bool (m k)) ∧ Below w'.heap.size w' w2) :
    Calls Try.prog 113 #[.agg #[.string A.name, .int .i64 A.sport, .int .i64 A.start, .slice A.sa A.sn A.sc, .slice A.la A.ln A.lc, .slice A.ta A.tn A.tc], .int .i64 least, .func (.func g) #[] #[.pointer (some ⟨bb, 0, none⟩)]] w fun e w' => OutP w.heap.size w' (rowsR A.ss m least) e ∧ Below w.heap.size w w' := by
  have hlS := stepsL_len A.ss
  have hll := hok.len
  refine enterQ (N := 55) (C := fun _ => True) (H := []) (B := w.heap.size) (args := [_, _, _]) Try.func113 rfl rfl rfl (Nat.le_refl _) (Sat.nil _ _) fun Q hQ => ?_
  refine wp_seq' fun K1 hK1 => ?_
  refine wp_reg ?_
  refine ol_box 3 rfl rfl rfl fun b3 => ?_
  refine ol_box 4 rfl rfl rfl fun b4 => ?_
  refine ol_box 5 rfl rfl rfl fun b5 => ?_
  refine ol_r (r_assign rfl) rfl ?_
  refine ol_nil (to_k0 (fun _ _ h => h) (hK1 _ _ _ _ _ ?_))
  clear hK1
  refine wp_seq' fun K2 hK2 => ?_
  refine wp_reg ?_
  refine ol_alloc 7 z46 rfl fun b7 => ?_
  refine ol_nilrow 3007 54 2 ?_
  refine ol_nil (to_k0 (fun _ _ h => h) (hK2 _ _ _ _ _ ?_))
  clear hK2
  refine wp_seq' fun K3 hK3 => ?_
  refine wp_seq' fun K4 hK4 => ?_
  refine wp_reg ?_
  refine ol_r (r_lda (id := 3) (n := 6) rfl rfl rfl ag26) rfl ?_
  refine ol_call rfl rfl cb124 rfl (fun w1 hb1 hs1 hB1 => ?_)
  refine Calls.mono (track_Steps A _ (hA.at hb1 hB1)) ?_
  rintro e w2 ⟨b0, T0, rfl, hb2, hs2⟩
  refine After.more rfl hb1 hs1 hB1 hb2 hs2 ?_
  clear hs2 hb2 hB1 hs1 hb1 w2 w1
  refine ol_nil (to_k0 (fun _ _ h => h) (hK4 _ _ _ _ _ ?_))
  clear hK4
  refine wp_block' ?_
  refine wp_rf (σ := Option Addr × Nat × Nat) (τ := Unit) (encs := fun x : SmpR × SmpR => [.agg #[.int .i64 x.1.at_, .int .i64 x.1.x, .int .i64 x.1.y, .int .i64 x.1.z, .int .i64 x.1.pulse, .int .i64 x.1.power, .int .i64 x.1.steps], .agg #[.int .i64 x.2.at_, .int .i64 x.2.x, .int .i64 x.2.y, .int .i64 x.2.z, .int .i64 x.2.pulse, .int .i64 x.2.power, .int .i64 x.2.steps]]) (zs := stepsL A.ss) rfl cb165 (steps_iter A _ b0 _ hA.s) (by rfl) (by rfl) (by rfl) (fun _ => rfl) (fun k s => k ≤ (stepsL A.ss).length ∧ s.2.1 = (rowsK m k).length) (fun k s => [(7, .blk b7 [(0, .slice s.1 s.2.1 s.2.2)] 46), (3007, .row s.1 s.2.1 s.2.2 (encSpan.enc (rowsS A.ss m k)) 54 2)]) [(3, _), (4, _), (5, _), (1001, _)] (fun t => False) (fun t => []) ((none, 0, 0)) ?_ (by exact (subH_blk rfl (sub_cons rfl sub_nil) (subH_row rfl (by first | (dsimp only; rfl; done) | (rfl; done) | (dsimp only; done)) subH_nil))) (subH_same rfl (subH_same rfl (subH_same rfl (subH_same rfl subH_nil)))) ?_ ?_ ?_ ?_
  ·try dsimp only
   exact ⟨by omega, rfl⟩
  ·intro k s W hI hbW hsW hBW
   exact ⟨hbW, ⟨_, hsW.one 1001 100 rfl (Ent.le_refl _)⟩, hBW⟩
  ·rintro k x ⟨oa, on, oc⟩ B0 W hx hI hbW hBW hB0
   have hxx := stepsL_inv hx
   have hxa := hok.bd _ (List.mem_of_getElem? hxx.1)
   have hxb := hok.bd _ (List.mem_of_getElem? hxx.2)
   have hkl := (List.getElem?_eq_some_iff.1 hx).1
   dsimp only at hI ⊢
   have hkle := rowsK_le m k
   have hrl := rowsS_len A.ss m k
   intro Ka5 hKa5
   simp only [alp]
   refine wp_seq' fun K6 hK6 => ?_
   refine wp_reg ?_
   refine ol_alloc 8 z28 rfl fun b8 => ?_
   refine ol_store (id := 8) rfl rfl rfl rfl sz28 rfl rfl (by first | decide | exact Nat.zero_lt_succ _ | simp) ?_
   refine ol_nil (to_k0 (fun _ _ h => h) (hK6 _ _ _ _ _ ?_))
   clear hK6
   refine wp_reg ?_
   refine ol_alloc 9 z28 rfl fun b9 => ?_
   refine ol_store (id := 9) rfl rfl rfl rfl sz28 rfl rfl (by first | decide | exact Nat.zero_lt_succ _ | simp) ?_
   refine ol_nil (to_k0 (fun _ _ h => h) (hKa5 _ _ fun Wb R hbw hBw hn hr => ?_))
   have hk := hk.below hbw
   refine wp_block' ?_
   refine wp_seq' fun K7 hK7 => ?_
   refine wp_seq' fun K8 hK8 => ?_
   refine wp_reg ?_
   refine ol_r (r_ld (id := 5) rfl rfl rfl sc127) rfl ?_
   refine ol_r (r_lda (id := 8) (n := 7) rfl rfl rfl ag28) rfl ?_
   refine ol_r (r_lda (id := 9) (n := 7) rfl rfl rfl ag28) rfl ?_
   refine ol_call (cv := [Value.pointer (some ⟨bb, 0, none⟩)]) rfl rfl hg rfl (fun w1 hb1 hs1 hB1 => Calls.mono (hf k x _ hx (hk.at hb1 hB1)) ?_)
   rintro e w2 ⟨rfl, hb2⟩
   refine After.below rfl hb1 hs1 hB1 hb2 ?_
   clear hb2 hB1 hs1 hb1 w2 w1
   refine ol_r (r_not rfl) rfl ?_
   refine ol_nil (to_k0 (fun _ _ h => h) (hK8 _ _ _ _ _ ?_))
   clear hK8
   first | refine wp_condD rfl (fun hc19 => ?_) (fun hc19 => ?_) | refine wp_condN rfl (fun hc19 => ?_) (fun hc19 => ?_) | refine wp_condNB rfl (fun hc19 => ?_) (fun hc19 => ?_) | refine wp_cond' rfl (fun hc19 => ?_) (fun hc19 => ?_)
   ·refine wp_exit' (QP.of (hn ((_, _, _)) _ _ ?_ (by exact (subH_blk rfl (sub_cons rfl sub_nil) (subH_row rfl (by first | (dsimp only; first | (change _ at hput; rw [rowsS_put hm hp hput hxx.2, ← hix, ← hfr]) | (change _ at hnew; rw [rowsS_new hm hnew hxx.1 hxx.2, Enc.enc_append]; rfl) | (unfold rowsS; rw [rowsK_no (by simpa using hc19)]); done) | (first | (change _ at hput; rw [rowsS_put hm hp hput hxx.2, ← hix, ← hfr]) | (change _ at hnew; rw [rowsS_new hm hnew hxx.1 hxx.2, Enc.enc_append]; rfl) | (unfold rowsS; rw [rowsK_no (by simpa using hc19)]); done) | (dsimp only; done)) subH_nil))) (subH_same rfl (subH_same rfl (subH_same rfl (subH_same rfl subH_nil))))) (fun _ _ h => h))
    try dsimp only
    first
      | (change _ at hput; exact ⟨by omega, by rw [rowsK_len_put hm hp hput]; exact hI.2⟩)
      | (change _ at hnew; exact ⟨by omega, by rw [rowsK_len_new hm hnew, ← hI.2]⟩)
      | exact ⟨by omega, by rw [rowsK_no (by simpa using hc19)]; exact hI.2⟩
   ·refine wp_skip' (to_k0 (fun _ _ h => h) (hK7 _ _ _ _ _ ?_))
    clear hK7
    refine wp_seq' fun K9 hK9 => ?_
    refine wp_reg ?_
    have hm : m k = true := by simpa using hc19
    refine ol_r (r_ld (id := 7) rfl rfl rfl sc46) rfl ?_
    refine ol_r (r_len rfl sl46) rfl ?_
    refine ol_r (r_sub rfl rfl (by omega)) rfl ?_
    refine ol_r (r_assign rfl) rfl ?_
    refine ol_nil (to_k0 (fun _ _ h => h) (hK9 _ _ _ _ _ ?_))
    clear hK9
    refine wp_seq' fun K10 hK10 => ?_
    refine wp_regq (by kernel_rfl) (by kernel_rfl) ?_
    refine ql_r (r_move rfl) rfl ?_
    refine ql_r (r_geq rfl rfl) rfl ?_
    refine ql_r (r_move rfl) rfl ?_
    refine ql_split (d := 25) rfl (fun hs25 => ?_) (fun hs25 => ?_)
    ·have phs25 := hs25; try simp only [decide_eq_true_eq, decide_eq_false_iff_not, Bool.not_eq_true', Bool.not_eq_false', Bool.not_true, Bool.not_false] at phs25
     refine ql_g rfl rfl hs25 ?_
     refine ql_r (r_ld (id := 7) rfl rfl rfl sc46) rfl ?_
     refine ql_g rfl rfl hs25 ?_
     refine ql_r (r_move rfl) rfl ?_
     refine ql_g rfl rfl hs25 ?_
     refine ql_ixo (id := 3007) encSpan _ rfl rfl rfl rfl sl46 (by omega) (by omega) rfl fun x28 hx28 => ?_
     try simp only [Int.toNat_natCast] at hx28
     try simp only [Int.toNat_natCast] at hx28
     refine ql_g rfl rfl hs25 ?_
     refine ql_r (r_faO (id := 3007) rfl rfl rfl hx28 fl54_1) rfl ?_
     refine ql_g rfl rfl hs25 ?_
     refine ql_r (r_ldw rfl (fun w1 hb1 hs1 hB1 => ld_ownF (id := 3007) (o := 1) hs1 rfl rfl sc3 hx28 rfl)) rfl ?_
     refine ql_g rfl rfl hs25 ?_
     have hix : ((on : Int) - 1).toNat = (rowsK m k).length - 1 := by omega
     obtain ⟨p, hp, hpe⟩ := rowsS_get hx28
     rw [hix] at hp
     have hp1 := (rowI m k).one _ p hp
     have hto : x28.to = atN A.ss p.2 - 1 := by rw [hpe]; rfl
     have hfrm : x28.from_ = atN A.ss p.1 := by rw [hpe]; rfl
     have hbd := atN_bd hok p.2
     have hat : atN A.ss k = x.1.at_ := atN_get hxx.1
     refine ql_r (r_add rfl rfl (by omega)) rfl ?_
     refine ql_g rfl rfl hs25 ?_
     refine ql_r (r_fa (o' := 0) rfl fl28_0 rfl) rfl ?_
     refine ql_g rfl rfl hs25 ?_
     refine ql_r (r_ld (id := 8) rfl rfl rfl sc3) rfl ?_
     refine ql_g rfl rfl hs25 ?_
     refine ql_r (r_eql rfl rfl) rfl ?_
     refine ql_r (r_pickT rfl hs25 rfl) rfl ?_
     refine ql_nil (to_k0 (fun _ _ h => h) (hK10 _ _ _ _ _ ?_))
     clear hK10
     first | refine wp_condD rfl (fun hc35 => ?_) (fun hc35 => ?_) | refine wp_condN rfl (fun hc35 => ?_) (fun hc35 => ?_) | refine wp_condNB rfl (fun hc35 => ?_) (fun hc35 => ?_) | refine wp_cond' rfl (fun hc35 => ?_) (fun hc35 => ?_)
     ·refine wp_reg ?_
      have hput : p.2 = k := by
        have hr := riseN hok
        have h1 := hr.backle (i := p.2) (j := k) (by omega) (by omega) (by omega)
        have h2 := hr.backle (i := k) (j := p.2) (by omega) (by omega) (by omega)
        omega
      refine ol_r (r_ld (id := 7) rfl rfl rfl sc46) rfl ?_
      refine ol_r (r_move rfl) rfl ?_
      refine ol_r (r_fa (o' := 0) rfl fl28_0 rfl) rfl ?_
      refine ol_r (r_ld (id := 9) rfl rfl rfl sc3) rfl ?_
      refine ol_r (r_sub rfl rfl (by omega)) rfl ?_
      refine ol_ixo (id := 3007) encSpan _ rfl rfl rfl rfl sl46 (by omega) rfl fun x41 hx41 => ?_
      try simp only [Int.toNat_natCast] at hx41
      try simp only [Int.toNat_natCast] at hx41
      have hfr : x41.from_ = atN A.ss p.1 := by rw [Option.some.inj (hx41.symm.trans hx28)]; exact hfrm
      refine ol_r (r_faO (id := 3007) rfl rfl rfl hx41 fl54_1) rfl ?_
      refine ol_storeRowF (id := 3007) _ _ (⟨x41.from_, x.2.at_ - 1⟩) rfl rfl rfl rfl rfl rfl sz3 hx41 (by decide) rfl ?_
      refine ol_nil (QP.of (hn ((_, _, _)) _ _ ?_ (by exact (subH_blk rfl (sub_cons rfl sub_nil) (subH_row rfl (by first | (dsimp only; first | (change _ at hput; rw [rowsS_put hm hp hput hxx.2, ← hix, ← hfr]) | (change _ at hnew; rw [rowsS_new hm hnew hxx.1 hxx.2, Enc.enc_append]; rfl) | (unfold rowsS; rw [rowsK_no (by simpa using hc19)]); done) | (first | (change _ at hput; rw [rowsS_put hm hp hput hxx.2, ← hix, ← hfr]) | (change _ at hnew; rw [rowsS_new hm hnew hxx.1 hxx.2, Enc.enc_append]; rfl) | (unfold rowsS; rw [rowsK_no (by simpa using hc19)]); done) | (dsimp only; done)) subH_nil))) (subH_same rfl (subH_same rfl (subH_same rfl (subH_same rfl subH_nil))))) (fun _ _ h => h))
      try dsimp only
      first
        | (change _ at hput; exact ⟨by omega, by rw [rowsK_len_put hm hp hput]; exact hI.2⟩)
        | (change _ at hnew; exact ⟨by omega, by rw [rowsK_len_new hm hnew, ← hI.2]⟩)
        | exact ⟨by omega, by rw [rowsK_no (by simpa using hc19)]; exact hI.2⟩
     ·refine wp_reg ?_
      have hnew : ∀ p', (rowsK m k)[(rowsK m k).length - 1]? = some p' → p'.2 ≠ k := by
        first
        | (intro p' hp' hpk
           have hpp : p' = p := Option.some.inj (hp'.symm.trans hp)
           subst hpp
           rw [hpk] at hto
           apply hc35
           omega)
        | (intro p' hp'
           have := (List.getElem?_eq_some_iff.1 hp').1
           omega)
      refine ol_r (r_ld (id := 7) rfl rfl rfl sc46) rfl ?_
      refine ol_r (r_fa (o' := 0) rfl fl28_0 rfl) rfl ?_
      refine ol_r (r_ld (id := 8) rfl rfl rfl sc3) rfl ?_
      refine ol_r (r_fa (o' := 0) rfl fl28_0 rfl) rfl ?_
      refine ol_r (r_ld (id := 9) rfl rfl rfl sc3) rfl ?_
      refine ol_r (r_sub rfl rfl (by omega)) rfl ?_
      refine ol_r (r_build rfl (fun _ => bd54_0_1 _ _ _)) rfl ?_
      refine ol_bs1 50 rfl rfl rw46 rfl rfl rfl fun a50 => ?_
      refine ol_append1 (id := 3007) (id2 := 50) rfl rfl rfl rfl rfl rw46 (by omega) rfl fun a51 c51 => ?_
      refine ol_store (id := 7) rfl rfl rfl rfl sz46 rfl rfl (by first | decide | exact Nat.zero_lt_succ _ | simp) ?_
      refine ol_nil (QP.of (hn ((_, _, _)) _ _ ?_ (by exact (subH_blk rfl (sub_cons rfl sub_nil) (subH_row rfl (by first | (dsimp only; first | (change _ at hput; rw [rowsS_put hm hp hput hxx.2, ← hix, ← hfr]) | (change _ at hnew; rw [rowsS_new hm hnew hxx.1 hxx.2, Enc.enc_append]; rfl) | (unfold rowsS; rw [rowsK_no (by simpa using hc19)]); done) | (first | (change _ at hput; rw [rowsS_put hm hp hput hxx.2, ← hix, ← hfr]) | (change _ at hnew; rw [rowsS_new hm hnew hxx.1 hxx.2, Enc.enc_append]; rfl) | (unfold rowsS; rw [rowsK_no (by simpa using hc19)]); done) | (dsimp only; done)) subH_nil))) (subH_same rfl (subH_same rfl (subH_same rfl (subH_same rfl subH_nil))))) (fun _ _ h => h))
      try dsimp only
      first
        | (change _ at hput; exact ⟨by omega, by rw [rowsK_len_put hm hp hput]; exact hI.2⟩)
        | (change _ at hnew; exact ⟨by omega, by rw [rowsK_len_new hm hnew, ← hI.2]⟩)
        | exact ⟨by omega, by rw [rowsK_no (by simpa using hc19)]; exact hI.2⟩
    ·have phs25 := hs25; try simp only [decide_eq_true_eq, decide_eq_false_iff_not, Bool.not_eq_true', Bool.not_eq_false', Bool.not_true, Bool.not_false] at phs25
     refine ql_s rfl rfl hs25 rfl ?_
     refine ql_s rfl rfl hs25 rfl ?_
     refine ql_s rfl rfl hs25 rfl ?_
     refine ql_s rfl rfl hs25 rfl ?_
     refine ql_s rfl rfl hs25 rfl ?_
     refine ql_s rfl rfl hs25 rfl ?_
     refine ql_s rfl rfl hs25 rfl ?_
     refine ql_s rfl rfl hs25 rfl ?_
     refine ql_s rfl rfl hs25 rfl ?_
     refine ql_r (r_pickF rfl hs25 rfl) rfl ?_
     refine ql_nil (to_k0 (fun _ _ h => h) (hK10 _ _ _ _ _ ?_))
     clear hK10
     refine wp_condF rfl ?_
     refine wp_reg ?_
     have hnew : ∀ p', (rowsK m k)[(rowsK m k).length - 1]? = some p' → p'.2 ≠ k := by
       first
       | (intro p' hp' hpk
          have hpp : p' = p := Option.some.inj (hp'.symm.trans hp)
          subst hpp
          rw [hpk] at hto
          apply hc35
          omega)
       | (intro p' hp'
          have := (List.getElem?_eq_some_iff.1 hp').1
          omega)
     refine ol_r (r_ld (id := 7) rfl rfl rfl sc46) rfl ?_
     refine ol_r (r_fa (o' := 0) rfl fl28_0 rfl) rfl ?_
     refine ol_r (r_ld (id := 8) rfl rfl rfl sc3) rfl ?_
     refine ol_r (r_fa (o' := 0) rfl fl28_0 rfl) rfl ?_
     refine ol_r (r_ld (id := 9) rfl rfl rfl sc3) rfl ?_
     refine ol_r (r_sub rfl rfl (by omega)) rfl ?_
     refine ol_r (r_build rfl (fun _ => bd54_0_1 _ _ _)) rfl ?_
     refine ol_bs1 50 rfl rfl rw46 rfl rfl rfl fun a50 => ?_
     refine ol_append1 (id := 3007) (id2 := 50) rfl rfl rfl rfl rfl rw46 (by omega) rfl fun a51 c51 => ?_
     refine ol_store (id := 7) rfl rfl rfl rfl sz46 rfl rfl (by first | decide | exact Nat.zero_lt_succ _ | simp) ?_
     refine ol_nil (QP.of (hn ((_, _, _)) _ _ ?_ (by exact (subH_blk rfl (sub_cons rfl sub_nil) (subH_row rfl (by first | (dsimp only; first | (change _ at hput; rw [rowsS_put hm hp hput hxx.2, ← hix, ← hfr]) | (change _ at hnew; rw [rowsS_new hm hnew hxx.1 hxx.2, Enc.enc_append]; rfl) | (unfold rowsS; rw [rowsK_no (by simpa using hc19)]); done) | (first | (change _ at hput; rw [rowsS_put hm hp hput hxx.2, ← hix, ← hfr]) | (change _ at hnew; rw [rowsS_new hm hnew hxx.1 hxx.2, Enc.enc_append]; rfl) | (unfold rowsS; rw [rowsK_no (by simpa using hc19)]); done) | (dsimp only; done)) subH_nil))) (subH_same rfl (subH_same rfl (subH_same rfl (subH_same rfl subH_nil))))) (fun _ _ h => h))
     try dsimp only
     first
       | (change _ at hput; exact ⟨by omega, by rw [rowsK_len_put hm hp hput]; exact hI.2⟩)
       | (change _ at hnew; exact ⟨by omega, by rw [rowsK_len_new hm hnew, ← hI.2]⟩)
       | exact ⟨by omega, by rw [rowsK_no (by simpa using hc19)]; exact hI.2⟩
  ·rintro ⟨oa, on, oc⟩ dd hI
   dsimp only at hI ⊢
   have hkle := rowsK_le m (stepsL A.ss).length
   refine (to_k0 (fun _ _ h => h) (hK3 _ _ _ _ _ ?_))
   clear hK3
   refine wp_seq' fun K11 hK11 => ?_
   refine wp_reg ?_
   refine ol_r (r_ld (id := 7) rfl rfl rfl sc46) rfl ?_
   refine ol_r (r_func rfl) rfl ?_
   refine ol_call rfl rfl cb137 rfl (fun w1 hb1 hs1 hB1 => ?_)
   refine Calls.mono (deleteFunc_span _ _ _ _ (rowsS A.ss m (stepsL A.ss).length) 138 b4 least _ (fun s => decide (s.to - s.from_ + 1 < least)) _ _ _ _ _ (by rw [rowsS_len]; exact hI.2.symm) hB1 cb138 (fun x w' hm h => track_rows1 x least b4 w' h (rows_bd hok hm).1 (rows_bd hok hm).2) (hs1.kle [(3007, 900), (4, 901), (3, 902), (5, 903), (7, 904), (1001, 905)] (kle_cons rfl (Ent.le_refl _) (kle_cons rfl (Ent.le_refl _) (kle_cons rfl (Ent.le_refl _) (kle_cons rfl (Ent.le_refl _) (kle_cons rfl (Ent.le_refl _) (kle_cons rfl (Ent.le_refl _) kle_nil)))))) (by decide))) ?_
   rintro e w2 ⟨rfl, hb2, hs2, hB2, hk2⟩
   refine After.sat rfl hb1 hb2 (hs2.kle [(900, 3007), (904, 7)] (kle_cons rfl (Ent.le_refl _) (kle_cons rfl (Ent.le_refl _) kle_nil)) (by decide)) hB2 (hk2.imp fun _ h => h.elim) ?_
   clear hk2 hs2 hb2 hB2 hB1 hs1 hb1 w2 w1
   refine ol_r (r_assign rfl) rfl ?_
   refine ol_nil (to_k0 (fun _ _ h => h) (hK11 _ _ _ _ _ ?_))
   clear hK11
   refine hQ.ret (rvs1 (rv_t rfl)) (fun _ _ h => h) fun w hb hs hB hkd => ?_
   rw [hlS] at hs
   refine ⟨⟨oa, oc, ?_, hs.one 3007 1001 rfl (Ent.le_refl _)⟩, hb⟩
   rw [hlS]; rfl
  ·exact fun t dd hI => hI.elim
def idleR (a : ActD) (gap : Int) : List SpanR × Int := if chkA a ≠ 0 then ([], chkA a) else if gap < 1 ∨ 1000000 < gap then ([], 9) else (rowsR a.ss (idleM a.ss gap) 0, 0)
theorem idleR_e {a : ActD} {g : Int} (h : chkA a ≠ 0) : idleR a g = ([], chkA a) := if_pos h
theorem idleR_9 {a : ActD} {g : Int} (h : ¬chkA a ≠ 0) (h2 : g < 1 ∨ 1000000 < g) : idleR a g = ([], 9) := by rw [idleR, if_neg h, if_pos h2]
theorem idleR_0 {a : ActD} {g : Int} (h : ¬chkA a ≠ 0) (h2 : ¬(g < 1 ∨ 1000000 < g)) : idleR a g = (rowsR a.ss (idleM a.ss g) 0, 0) := by rw [idleR, if_neg h, if_neg h2]
def stillC (slow least : Int) : Int := if inB slow 0 100000 = true ∧ inB least 1 1000000 = true then 0 else 9
theorem stillC_0 {slow least : Int} (h : ¬stillC slow least ≠ 0) : inB slow 0 100000 = true ∧ inB least 1 1000000 = true := by
  unfold stillC at h
  by_cases h1 : inB slow 0 100000 = true ∧ inB least 1 1000000 = true
  · exact h1
  · rw [if_neg h1] at h; exact absurd (show (9 : Int) ≠ 0 by decide) h
theorem stillC_9 {slow least : Int} (h : stillC slow least ≠ 0) : stillC slow least = 9 ∧ ¬(inB slow 0 100000 = true ∧ inB least 1 1000000 = true) := by
  unfold stillC at h ⊢
  by_cases h1 : inB slow 0 100000 = true ∧ inB least 1 1000000 = true
  · rw [if_pos h1] at h; exact absurd rfl h
  · rw [if_neg h1]; exact ⟨rfl, h1⟩
noncomputable def stillR (a : ActD) (slow least : Int) : List SpanR × Int := if chkA a ≠ 0 then ([], chkA a) else if stillC slow least ≠ 0 then ([], stillC slow least) else (rowsR a.ss (stillM a.ss slow) least, 0)
theorem stillR_e {a : ActD} {s l : Int} (h : chkA a ≠ 0) : stillR a s l = ([], chkA a) := if_pos h
theorem stillR_9 {a : ActD} {s l : Int} (h : ¬chkA a ≠ 0) (h2 : stillC s l ≠ 0) : stillR a s l = ([], stillC s l) := by rw [stillR, if_neg h, if_pos h2]
theorem stillR_0 {a : ActD} {s l : Int} (h : ¬chkA a ≠ 0) (h2 : ¬stillC s l ≠ 0) : stillR a s l = (rowsR a.ss (stillM a.ss s) l, 0) := by rw [stillR, if_neg h, if_neg h2]
theorem stillR_or {a : ActD} {s l : Int} (h : orR [chkA a, stillC s l] ≠ 0) : stillR a s l = ([], orR [chkA a, stillC s l]) := by
  rw [orR_two] at h ⊢
  by_cases h1 : chkA a ≠ 0
  · rw [if_pos h1, stillR_e h1]
  · rw [if_neg h1] at h ⊢; exact stillR_9 h1 h
theorem track_checkStill (slow least : Int) (w : World) : Calls Try.prog 73 #[.int .i64 slow, .int .i64 least] w fun e w' => e = .returned (.int .i64 (stillC slow least)) ∧ Below w.heap.size w w' := by
  refine enterQ (N := 13) (C := fun _ => True) (H := []) (B := w.heap.size) (args := [_, _]) Try.func73 rfl rfl rfl (Nat.le_refl _) (Sat.nil _ _) fun Q hQ => ?_
  refine wp_seq' fun K1 hK1 => ?_
  refine wp_reg ?_
  refine ol_r (r_assign rfl) rfl ?_
  refine ol_nil (to_k0 (fun _ _ h => h) (hK1 _ _ _ _ _ ?_))
  clear hK1
  refine wp_seq' fun K2 hK2 => ?_
  refine wp_seq' fun K3 hK3 => ?_
  refine wp_reg ?_
  refine ol_r (r_move rfl) rfl ?_
  refine ol_call rfl rfl cb41 rfl (fun w1 hb1 hs1 hB1 => Calls.mono (track_in _ _ _ _) ?_)
  rintro e w2 ⟨rfl, hb2⟩
  refine After.below rfl hb1 hs1 hB1 hb2 ?_
  clear hb2 hB1 hs1 hb1 w2 w1
  refine ol_r (r_not rfl) rfl ?_
  refine ol_r (r_move rfl) rfl ?_
  refine ol_split (d := 8) rfl (fun hs8 => ?_) (fun hs8 => ?_)
  ·have phs8 := hs8; try simp only [decide_eq_true_eq, decide_eq_false_iff_not, Bool.not_eq_true', Bool.not_eq_false', Bool.not_true, Bool.not_false] at phs8
   refine ol_s rfl rfl hs8 rfl ?_
   refine ol_s rfl rfl hs8 rfl ?_
   refine ol_s rfl rfl hs8 rfl ?_
   refine ol_r (r_pickT rfl hs8 rfl) rfl ?_
   refine ol_nil (to_k0 (fun _ _ h => h) (hK3 _ _ _ _ _ ?_))
   clear hK3
   refine wp_condT rfl ?_
   refine wp_seq' fun K4 hK4 => ?_
   refine wp_reg ?_
   refine ol_r (r_assign rfl) rfl ?_
   refine ol_nil (to_k0 (fun _ _ h => h) (hK4 _ _ _ _ _ ?_))
   clear hK4
   refine hQ.ret (rvs1 (rv_t rfl)) (fun _ _ h => h) fun w hb hs hB hkd => ?_
   exact ⟨by unfold stillC; rw [if_neg (by simp_all)], hb⟩
  ·have phs8 := hs8; try simp only [decide_eq_true_eq, decide_eq_false_iff_not, Bool.not_eq_true', Bool.not_eq_false', Bool.not_true, Bool.not_false] at phs8
   refine ol_g rfl rfl hs8 ?_
   refine ol_r (r_move rfl) rfl ?_
   refine ol_g rfl rfl hs8 ?_
   refine ol_call rfl rfl cb41 rfl (fun w1 hb1 hs1 hB1 => Calls.mono (track_in _ _ _ _) ?_)
   rintro e w2 ⟨rfl, hb2⟩
   refine After.below rfl hb1 hs1 hB1 hb2 ?_
   clear hb2 hB1 hs1 hb1 w2 w1
   refine ol_g rfl rfl hs8 ?_
   refine ol_r (r_not rfl) rfl ?_
   refine ol_r (r_pickF rfl hs8 rfl) rfl ?_
   refine ol_nil (to_k0 (fun _ _ h => h) (hK3 _ _ _ _ _ ?_))
   clear hK3
   first | refine wp_condD rfl (fun hc12 => ?_) (fun hc12 => ?_) | refine wp_condN rfl (fun hc12 => ?_) (fun hc12 => ?_) | refine wp_condNB rfl (fun hc12 => ?_) (fun hc12 => ?_) | refine wp_cond' rfl (fun hc12 => ?_) (fun hc12 => ?_)
   ·refine wp_seq' fun K5 hK5 => ?_
    refine wp_reg ?_
    refine ol_r (r_assign rfl) rfl ?_
    refine ol_nil (to_k0 (fun _ _ h => h) (hK5 _ _ _ _ _ ?_))
    clear hK5
    refine hQ.ret (rvs1 (rv_t rfl)) (fun _ _ h => h) fun w hb hs hB hkd => ?_
    exact ⟨by unfold stillC; rw [if_neg (by simp_all)], hb⟩
   ·refine wp_skip' (to_k0 (fun _ _ h => h) (hK2 _ _ _ _ _ ?_))
    clear hK2
    refine wp_seq' fun K6 hK6 => ?_
    refine wp_reg ?_
    refine ol_r (r_assign rfl) rfl ?_
    refine ol_nil (to_k0 (fun _ _ h => h) (hK6 _ _ _ _ _ ?_))
    clear hK6
    refine hQ.ret (rvs1 (rv_t rfl)) (fun _ _ h => h) fun w hb hs hB hkd => ?_
    exact ⟨by unfold stillC; rw [if_pos (by simp_all)], hb⟩
theorem track_idle (A : ActV) (gap : Int) (w : World) (hA : A.Ok w.heap.size w) (hok : SmpOk A.start A.ss) :
    Calls Try.prog 71 #[.agg #[.string A.name, .int .i64 A.sport, .int .i64 A.start, .slice A.sa A.sn A.sc, .slice A.la A.ln A.lc, .slice A.ta A.tn A.tc], .int .i64 gap] w fun e w' => OutP w.heap.size w' (rowsR A.ss (idleM A.ss gap) 0) e ∧ Below w.heap.size w w' := by
  refine enterQ (N := 8) (C := fun _ => True) (H := []) (B := w.heap.size) (args := [_, _]) Try.func71 rfl rfl rfl (Nat.le_refl _) (Sat.nil _ _) fun Q hQ => ?_
  refine wp_seq' fun K1 hK1 => ?_
  refine wp_reg ?_
  refine ol_box 2 rfl rfl rfl fun b2 => ?_
  refine ol_box 3 rfl rfl rfl fun b3 => ?_
  refine ol_r (r_assign rfl) rfl ?_
  refine ol_nil (to_k0 (fun _ _ h => h) (hK1 _ _ _ _ _ ?_))
  clear hK1
  refine wp_seq' fun K2 hK2 => ?_
  refine wp_reg ?_
  refine ol_r (r_lda (id := 2) (n := 6) rfl rfl rfl ag26) rfl ?_
  refine ol_r (r_func rfl) rfl ?_
  refine ol_call rfl rfl cb113 rfl (fun w1 hb1 hs1 hB1 => ?_)
  refine Calls.mono (track_rows A (idleM A.ss gap) 114 b3 gap 0 _ (hA.at hb1 hB1) hok (hs1.blk (id := 3) rfl) cb114 (fun k x w' hx h => ?_)) ?_
  · rw [idleM_get hx]
    have hxx := stepsL_inv hx
    have h1 := hok.bd _ (List.mem_of_getElem? hxx.1)
    have h2 := hok.bd _ (List.mem_of_getElem? hxx.2)
    exact track_idle1 x.1 x.2 b3 gap w' h ⟨h1.1, h1.2.1⟩ ⟨h2.1, h2.2.1⟩
  rintro e w2 ⟨⟨a, c, rfl, hs2⟩, hb2⟩
  refine After.more rfl hb1 hs1 hB1 hb2 hs2 ?_
  clear hs2 hb2 hB1 hs1 hb1 w2 w1
  refine ol_r (r_assign rfl) rfl ?_
  refine ol_nil (to_k0 (fun _ _ h => h) (hK2 _ _ _ _ _ ?_))
  clear hK2
  refine hQ.ret (rvs1 (rv_t rfl)) (fun _ _ h => h) fun w hb hs hB hkd => ?_
  exact ⟨⟨a, c, rfl, hs.one 1001 1001 rfl (Ent.le_refl _)⟩, hb⟩
theorem track_still (A : ActV) (slow least : Int) (w : World) (hA : A.Ok w.heap.size w) (hok : SmpOk A.start A.ss) (hs0 : 0 ≤ slow ∧ slow ≤ 100000) :
    Calls Try.prog 74 #[.agg #[.string A.name, .int .i64 A.sport, .int .i64 A.start, .slice A.sa A.sn A.sc, .slice A.la A.ln A.lc, .slice A.ta A.tn A.tc], .int .i64 slow, .int .i64 least] w fun e w' => OutP w.heap.size w' (rowsR A.ss (stillM A.ss slow) least) e ∧ Below w.heap.size w w' := by
  refine enterQ (N := 11) (C := fun _ => True) (H := []) (B := w.heap.size) (args := [_, _, _]) Try.func74 rfl rfl rfl (Nat.le_refl _) (Sat.nil _ _) fun Q hQ => ?_
  refine wp_seq' fun K1 hK1 => ?_
  refine wp_reg ?_
  refine ol_box 3 rfl rfl rfl fun b3 => ?_
  refine ol_box 4 rfl rfl rfl fun b4 => ?_
  refine ol_r (r_assign rfl) rfl ?_
  refine ol_nil (to_k0 (fun _ _ h => h) (hK1 _ _ _ _ _ ?_))
  clear hK1
  refine wp_seq' fun K2 hK2 => ?_
  refine wp_reg ?_
  refine ol_r (r_lda (id := 3) (n := 6) rfl rfl rfl ag26) rfl ?_
  refine ol_r (r_move rfl) rfl ?_
  refine ol_r (r_func rfl) rfl ?_
  refine ol_call rfl rfl cb113 rfl (fun w1 hb1 hs1 hB1 => ?_)
  refine Calls.mono (track_rows A (stillM A.ss slow) 115 b4 slow least _ (hA.at hb1 hB1) hok (hs1.blk (id := 4) rfl) cb115 (fun k x w' hx h => ?_)) ?_
  · rw [stillM_get hx]
    have hxx := stepsL_inv hx
    have h1 := hok.bd _ (List.mem_of_getElem? hxx.1)
    have h2 := hok.bd _ (List.mem_of_getElem? hxx.2)
    exact track_still1 x.1 x.2 b4 slow w' h hs0 ⟨h1.1, h1.2.1⟩ ⟨h2.1, h2.2.1⟩ (hok.place (List.mem_of_getElem? hxx.1)) (hok.place (List.mem_of_getElem? hxx.2))
  rintro e w2 ⟨⟨a, c, rfl, hs2⟩, hb2⟩
  refine After.more rfl hb1 hs1 hB1 hb2 hs2 ?_
  clear hs2 hb2 hB1 hs1 hb1 w2 w1
  refine ol_r (r_assign rfl) rfl ?_
  refine ol_nil (to_k0 (fun _ _ h => h) (hK2 _ _ _ _ _ ?_))
  clear hK2
  refine hQ.ret (rvs1 (rv_t rfl)) (fun _ _ h => h) fun w hb hs hB hkd => ?_
  exact ⟨⟨a, c, rfl, hs.one 1001 1001 rfl (Ent.le_refl _)⟩, hb⟩
theorem track_Idle (A : ActV) (gap : Int) (w : World) (hA : A.Ok w.heap.size w) :
    Calls Try.prog 27 #[.agg #[.string A.name, .int .i64 A.sport, .int .i64 A.start, .slice A.sa A.sn A.sc, .slice A.la A.ln A.lc, .slice A.ta A.tn A.tc], .int .i64 gap] w fun e w' => OutT w.heap.size w' (idleR A.d gap) e ∧ Below w.heap.size w w' := by
  refine enterQ (N := 18) (C := fun _ => True) (H := []) (B := w.heap.size) (args := [_, _]) Try.func27 rfl rfl rfl (Nat.le_refl _) (Sat.nil _ _) fun Q hQ => ?_
  refine wp_seq' fun K1 hK1 => ?_
  refine wp_reg ?_
  refine ol_box 2 rfl rfl rfl fun b2 => ?_
  refine ol_r (r_assign rfl) rfl ?_
  refine ol_r (r_assign rfl) rfl ?_
  refine ol_nil (to_k0 (fun _ _ h => h) (hK1 _ _ _ _ _ ?_))
  clear hK1
  refine wp_seq' fun K2 hK2 => ?_
  refine wp_seq' fun K3 hK3 => ?_
  refine wp_reg ?_
  refine ol_r (r_lda (id := 2) (n := 6) rfl rfl rfl ag26) rfl ?_
  refine ol_call rfl rfl cb40 rfl (fun w1 hb1 hs1 hB1 => Calls.mono (record_Check A _ (hA.at hb1 hB1)) ?_)
  rintro e w2 ⟨rfl, hb2⟩
  refine After.below rfl hb1 hs1 hB1 hb2 ?_
  clear hb2 hB1 hs1 hb1 w2 w1
  refine ol_r (r_assign rfl) rfl ?_
  refine ol_nil (to_k0 (fun _ _ h => h) (hK3 _ _ _ _ _ ?_))
  clear hK3
  refine wp_seq' fun K4 hK4 => ?_
  refine wp_reg ?_
  refine ol_r (r_move rfl) rfl ?_
  refine ol_r (r_neq rfl rfl) rfl ?_
  refine ol_nil (to_k0 (fun _ _ h => h) (hK4 _ _ _ _ _ ?_))
  clear hK4
  first | refine wp_condD rfl (fun hc10 => ?_) (fun hc10 => ?_) | refine wp_condN rfl (fun hc10 => ?_) (fun hc10 => ?_) | refine wp_condNB rfl (fun hc10 => ?_) (fun hc10 => ?_) | refine wp_cond' rfl (fun hc10 => ?_) (fun hc10 => ?_)
  ·refine wp_seq' fun K5 hK5 => ?_
   refine wp_reg ?_
   refine ol_r (r_move rfl) rfl ?_
   refine ol_r (r_assign rfl) rfl ?_
   refine ol_r (r_assign rfl) rfl ?_
   refine ol_nil (to_k0 (fun _ _ h => h) (hK5 _ _ _ _ _ ?_))
   clear hK5
   refine hQ.ret (rvs2 (rv_t rfl) (rv_t rfl)) (fun _ _ h => h) fun w hb hs hB hkd => ?_
   exact ⟨outT_no (idleR_e hc10), hb⟩
  ·refine wp_skip' (to_k0 (fun _ _ h => h) (hK2 _ _ _ _ _ ?_))
   clear hK2
   refine wp_seq' fun K6 hK6 => ?_
   refine wp_seq' fun K7 hK7 => ?_
   refine wp_reg ?_
   refine ol_r (r_move rfl) rfl ?_
   refine ol_call rfl rfl cb41 rfl (fun w1 hb1 hs1 hB1 => Calls.mono (track_in _ _ _ _) ?_)
   rintro e w2 ⟨rfl, hb2⟩
   refine After.below rfl hb1 hs1 hB1 hb2 ?_
   clear hb2 hB1 hs1 hb1 w2 w1
   refine ol_r (r_not rfl) rfl ?_
   refine ol_nil (to_k0 (fun _ _ h => h) (hK7 _ _ _ _ _ ?_))
   clear hK7
   first | refine wp_condD rfl (fun hc14 => ?_) (fun hc14 => ?_) | refine wp_condN rfl (fun hc14 => ?_) (fun hc14 => ?_) | refine wp_condNB rfl (fun hc14 => ?_) (fun hc14 => ?_) | refine wp_cond' rfl (fun hc14 => ?_) (fun hc14 => ?_)
   ·refine wp_seq' fun K8 hK8 => ?_
    refine wp_reg ?_
    refine ol_r (r_assign rfl) rfl ?_
    refine ol_r (r_assign rfl) rfl ?_
    refine ol_nil (to_k0 (fun _ _ h => h) (hK8 _ _ _ _ _ ?_))
    clear hK8
    refine hQ.ret (rvs2 (rv_t rfl) (rv_t rfl)) (fun _ _ h => h) fun w hb hs hB hkd => ?_
    exact ⟨outT_no (idleR_9 hc10 (by have h := inB_not.1 (by simpa using hc14); omega)), hb⟩
   ·refine wp_skip' (to_k0 (fun _ _ h => h) (hK6 _ _ _ _ _ ?_))
    clear hK6
    refine wp_seq' fun K9 hK9 => ?_
    refine wp_reg ?_
    refine ol_r (r_lda (id := 2) (n := 6) rfl rfl rfl ag26) rfl ?_
    refine ol_r (r_move rfl) rfl ?_
    refine ol_call rfl rfl cb71 rfl (fun w1 hb1 hs1 hB1 => ?_)
    refine Calls.mono (track_idle A gap _ (hA.at hb1 hB1) (goodA (Decidable.not_not.1 hc10)).smp) ?_
    rintro e w2 ⟨⟨a, c, rfl, hs2⟩, hb2⟩
    refine After.more rfl hb1 hs1 hB1 hb2 hs2 ?_
    clear hs2 hb2 hB1 hs1 hb1 w2 w1
    refine ol_r (r_assign rfl) rfl ?_
    refine ol_r (r_assign rfl) rfl ?_
    refine ol_nil (to_k0 (fun _ _ h => h) (hK9 _ _ _ _ _ ?_))
    clear hK9
    refine hQ.ret (rvs2 (rv_t rfl) (rv_t rfl)) (fun _ _ h => h) fun w hb hs hB hkd => ?_
    have h := inB_iff.1 (by simpa using hc14)
    refine ⟨?_, hb⟩
    rw [idleR_0 hc10 (by omega)]
    exact ⟨a, c, rfl, hs.one 1001 1001 rfl (Ent.le_refl _)⟩
theorem track_Still (A : ActV) (slow least : Int) (w : World) (hA : A.Ok w.heap.size w) :
    Calls Try.prog 29 #[.agg #[.string A.name, .int .i64 A.sport, .int .i64 A.start, .slice A.sa A.sn A.sc, .slice A.la A.ln A.lc, .slice A.ta A.tn A.tc], .int .i64 slow, .int .i64 least] w fun e w' => OutT w.heap.size w' (stillR A.d slow least) e ∧ Below w.heap.size w w' := by
  refine enterQ (N := 23) (C := fun _ => True) (H := []) (B := w.heap.size) (args := [_, _, _]) Try.func29 rfl rfl rfl (Nat.le_refl _) (Sat.nil _ _) fun Q hQ => ?_
  refine wp_seq' fun K1 hK1 => ?_
  refine wp_reg ?_
  refine ol_box 3 rfl rfl rfl fun b3 => ?_
  refine ol_r (r_assign rfl) rfl ?_
  refine ol_r (r_assign rfl) rfl ?_
  refine ol_nil (to_k0 (fun _ _ h => h) (hK1 _ _ _ _ _ ?_))
  clear hK1
  refine wp_seq' fun K2 hK2 => ?_
  refine wp_seq' fun K3 hK3 => ?_
  refine wp_reg ?_
  refine ol_r (r_lda (id := 3) (n := 6) rfl rfl rfl ag26) rfl ?_
  refine ol_call rfl rfl cb40 rfl (fun w1 hb1 hs1 hB1 => Calls.mono (record_Check A _ (hA.at hb1 hB1)) ?_)
  rintro e w2 ⟨rfl, hb2⟩
  refine After.below rfl hb1 hs1 hB1 hb2 ?_
  clear hb2 hB1 hs1 hb1 w2 w1
  refine ol_r (r_move rfl) rfl ?_
  refine ol_r (r_move rfl) rfl ?_
  refine ol_call rfl rfl cb73 rfl (fun w1 hb1 hs1 hB1 => Calls.mono (track_checkStill _ _ _) ?_)
  rintro e w2 ⟨rfl, hb2⟩
  refine After.below rfl hb1 hs1 hB1 hb2 ?_
  clear hb2 hB1 hs1 hb1 w2 w1
  refine ol_bsN 14 rfl rw122 rfl rfl (fun _ => by kernel_rfl) rfl fun a14 => ?_
  refine ol_call rfl rfl cb67 rfl (fun w1 hb1 hs1 hB1 => Calls.mono (cmp_Or _ _ _ [chkA A.d, stillC slow least] _ (Sat.rd hs1 (E := encI) (id := 14) rfl rfl)) ?_)
  rintro e w2 ⟨rfl, hb2⟩
  refine After.below rfl hb1 hs1 hB1 hb2 ?_
  clear hb2 hB1 hs1 hb1 w2 w1
  refine ol_r (r_assign rfl) rfl ?_
  refine ol_nil (to_k0 (fun _ _ h => h) (hK3 _ _ _ _ _ ?_))
  clear hK3
  refine wp_seq' fun K4 hK4 => ?_
  refine wp_reg ?_
  refine ol_r (r_move rfl) rfl ?_
  refine ol_r (r_neq rfl rfl) rfl ?_
  refine ol_nil (to_k0 (fun _ _ h => h) (hK4 _ _ _ _ _ ?_))
  clear hK4
  first | refine wp_condD rfl (fun hc17 => ?_) (fun hc17 => ?_) | refine wp_condN rfl (fun hc17 => ?_) (fun hc17 => ?_) | refine wp_condNB rfl (fun hc17 => ?_) (fun hc17 => ?_) | refine wp_cond' rfl (fun hc17 => ?_) (fun hc17 => ?_)
  ·refine wp_seq' fun K5 hK5 => ?_
   refine wp_reg ?_
   refine ol_r (r_move rfl) rfl ?_
   refine ol_r (r_assign rfl) rfl ?_
   refine ol_r (r_assign rfl) rfl ?_
   refine ol_nil (to_k0 (fun _ _ h => h) (hK5 _ _ _ _ _ ?_))
   clear hK5
   refine hQ.ret (rvs2 (rv_t rfl) (rv_t rfl)) (fun _ _ h => h) fun w hb hs hB hkd => ?_
   refine ⟨?_, hb⟩
   exact outT_no (stillR_or hc17)
  ·refine wp_skip' (to_k0 (fun _ _ h => h) (hK2 _ _ _ _ _ ?_))
   clear hK2
   refine wp_seq' fun K6 hK6 => ?_
   refine wp_reg ?_
   refine ol_r (r_lda (id := 3) (n := 6) rfl rfl rfl ag26) rfl ?_
   refine ol_r (r_move rfl) rfl ?_
   refine ol_r (r_move rfl) rfl ?_
   refine ol_call rfl rfl cb74 rfl (fun w1 hb1 hs1 hB1 => ?_)
   refine Calls.mono (track_still A slow least _ (hA.at hb1 hB1) (goodA (orR2 hc17).1).smp (inB_iff.1 (stillC_0 (fun h => h (orR2 hc17).2)).1)) ?_
   rintro e w2 ⟨⟨a, c, rfl, hs2⟩, hb2⟩
   refine After.more rfl hb1 hs1 hB1 hb2 hs2 ?_
   clear hs2 hb2 hB1 hs1 hb1 w2 w1
   refine ol_r (r_assign rfl) rfl ?_
   refine ol_r (r_assign rfl) rfl ?_
   refine ol_nil (to_k0 (fun _ _ h => h) (hK6 _ _ _ _ _ ?_))
   clear hK6
   refine hQ.ret (rvs2 (rv_t rfl) (rv_t rfl)) (fun _ _ h => h) fun w hb hs hB hkd => ?_
   refine ⟨?_, hb⟩
   rw [stillR_0 (fun h => h (orR2 hc17).1) (fun h => h (orR2 hc17).2)]
   exact ⟨a, c, rfl, hs.one 1001 1001 rfl (Ent.le_refl _)⟩
end Go.Proofs.Ytogcclagmobkiaa
