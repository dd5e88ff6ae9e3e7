/-
  Streams of an activity: program and reference.
-/
import Derived.Test.YtafkojlccknicaaEffM
import Derived.Test.YtafkojlccknicaaRoot
import Derived.Test.YtafkojlccknicaaSteps
import Derived.Test.YtafkojlccknicaaCheck
import Derived.Test.YtafkojlccknicaaStream
import Derived.Test.YtafkojlccknicaaSlices
namespace Go.Proofs.Ytafkojlccknicaa
open Go Go.RowKit Hx
set_option linter.unusedVariables false
set_option linter.unusedSimpArgs false
set_option maxRecDepth 8000
theorem SmpOk.span {st : Int} {ss : List SmpR} (h : SmpOk st ss) : 0 ≤ spanL ss ∧ spanL ss ≤ 1000000 := by
  unfold spanL
  split
  · rename_i x hx
    have := h.bd x (List.mem_of_getElem? hx)
    omega
  · omega
theorem track_Step2 (p q : SmpR) (w : World) (hp : PlaceOk p) (hq : PlaceOk q) : Calls Try.prog 121 #[.agg #[.int .i64 p.at_, .int .i64 p.x, .int .i64 p.y, .int .i64 p.z, .int .i64 p.pulse, .int .i64 p.power, .int .i64 p.steps], .agg #[.int .i64 q.at_, .int .i64 q.x, .int .i64 q.y, .int .i64 q.z, .int .i64 q.pulse, .int .i64 q.power, .int .i64 q.steps]] w fun e w' => e = .returned (.tuple #[.int .i64 (lenD p q), .int .i64 0]) ∧ Below w.heap.size w w' := by
  have h := track_Step p q w
  rw [stepD_ok hp hq] at h
  exact h
theorem stepV_snoc {kind : Int} {p q : SmpR} {j : Nat} {v : Int} (h : (j : Int) < q.at_ - p.at_) (hv : elV kind p q j = v) : (stepV kind p q).take (j + 1) = (stepV kind p q).take j ++ [v] := by
  rw [take_succ_get (stepV_get h), hv]
theorem valV_1 {kind : Int} {p q : SmpR} (h : kind = 1) : valV kind p q = p.pulse := if_pos h
theorem valV_2 {kind : Int} {p q : SmpR} (h : kind = 2) : valV kind p q = p.power := by subst h; rfl
theorem valV_3 {kind : Int} {p q : SmpR} (h : kind = 3) : valV kind p q = p.steps := by subst h; rfl
theorem lenV_4 {kind : Int} {p q : SmpR} (h : kind = 4) : lenV kind p q = lenD p q := if_pos h
theorem lenV_5 {kind : Int} {p q : SmpR} (h : kind = 5) : lenV kind p q = max (q.z - p.z) 0 := by subst h; rfl
theorem effort_stream (A : ActV) (kind : Int) (w : World) (hA : A.Ok w.heap.size w) (hok : SmpOk A.start A.ss) (hk : 1 ≤ kind ∧ kind ≤ 5) :
    Calls Try.prog 81 #[.agg #[.string A.name, .int .i64 A.sport, .int .i64 A.start, .slice A.sa A.sn A.sc, .slice A.la A.ln A.lc, .slice A.ta A.tn A.tc], .int .i64 kind] w fun e w' => ∃ b m k, e = .returned (.slice b m k) ∧ Fresh encI 3 w w' b m k (strmL kind A.ss (A.ss.length - 1)) := by
  have hsn := hA.s.len
  have hsf := hA.s.fit
  have hlen := stepsL_len A.ss
  have hl20 := hok.len
  have hspan := hok.span
  refine enterQ (N := 93) (C := fun _ => True) (H := []) (B := w.heap.size) (args := [_, _]) Try.func81 rfl rfl rfl (Nat.le_refl _) (Sat.nil _ _) fun Q hQ => ?_
  refine wp_seq' fun K1 hK1 => ?_
  refine wp_reg ?_
  refine ol_box 2 rfl rfl rfl fun b2 => ?_
  refine ol_box 3 rfl rfl rfl fun b3 => ?_
  refine ol_r (r_assign rfl) rfl ?_
  refine ol_nil (to_k0 (fun _ _ h => h) (hK1 _ _ _ _ _ ?_))
  clear hK1
  refine wp_seq' fun K2 hK2 => ?_
  refine wp_reg ?_
  refine ol_r (r_lda (id := 2) (n := 6) rfl rfl rfl ag51) rfl ?_
  refine ol_call rfl rfl cb84 rfl (fun w1 hb1 hs1 hB1 => Calls.mono (record_Span A _ (hA.at hb1 hB1)) ?_)
  rintro e w2 ⟨rfl, hb2⟩
  refine After.below rfl hb1 hs1 hB1 hb2 ?_
  clear hb2 hB1 hs1 hb1 w2 w1
  refine ol_make encI (0) 14 rfl rfl rw22 z3 rfl rfl (by omega) rfl fun a14 => ?_
  refine ol_alloc 5 z22 rfl fun b5 => ?_
  refine ol_store (id := 5) rfl rfl rfl rfl sz22 rfl rfl (by first | decide | exact Nat.zero_lt_succ _ | simp) ?_
  refine ol_nil (to_k0 (fun _ _ h => h) (hK2 _ _ _ _ _ ?_))
  clear hK2
  refine wp_seq' fun K3 hK3 => ?_
  refine wp_seq' fun K4 hK4 => ?_
  refine wp_reg ?_
  refine ol_r (r_lda (id := 2) (n := 6) rfl rfl rfl ag51) rfl ?_
  refine ol_call rfl rfl cb120 rfl (fun w1 hb1 hs1 hB1 => ?_)
  refine Calls.mono (track_Steps A _ (hA.at hb1 hB1)) ?_
  rintro e w2 ⟨b0, T0, rfl, hb2, hs2⟩
  refine After.more rfl hb1 hs1 hB1 hb2 hs2 ?_
  clear hs2 hb2 hB1 hs1 hb1 w2 w1
  refine ol_nil (to_k0 (fun _ _ h => h) (hK4 _ _ _ _ _ ?_))
  clear hK4
  refine wp_block' ?_
  refine wp_rf (σ := Option Addr × Nat × Nat) (τ := Unit) (encs := fun x : SmpR × SmpR => [.agg #[.int .i64 x.1.at_, .int .i64 x.1.x, .int .i64 x.1.y, .int .i64 x.1.z, .int .i64 x.1.pulse, .int .i64 x.1.power, .int .i64 x.1.steps], .agg #[.int .i64 x.2.at_, .int .i64 x.2.x, .int .i64 x.2.y, .int .i64 x.2.z, .int .i64 x.2.pulse, .int .i64 x.2.power, .int .i64 x.2.steps]]) (zs := stepsL A.ss) rfl cb140 (steps_iter A _ b0 _ hA.s) (by rfl) (by rfl) (by rfl) (fun _ => rfl) (fun k s => k ≤ (stepsL A.ss).length ∧ s.2.1 = (strmL kind A.ss k).length) (fun k s => [(5, .blk b5 [(0, .slice s.1 s.2.1 s.2.2)] 22), (14, .row s.1 s.2.1 s.2.2 (encI.enc (strmL kind A.ss k)) 3 1)]) [(2, _), (3, _), (1001, _)] (fun t => False) (fun t => []) ((_, _, _)) ?_ (by exact (subH_blk rfl (sub_cons rfl sub_nil) (subH_row rfl (by first | (dsimp only; rfl; done) | (rfl; done) | (dsimp only; done)) subH_nil))) (subH_same rfl (subH_same rfl (subH_same rfl subH_nil))) ?_ ?_ ?_ ?_
  ·try dsimp only
   exact ⟨Nat.zero_le _, rfl⟩
  ·intro k s W hI hbW hsW hBW
   exact ⟨hbW, ⟨_, hsW.one 1001 100 rfl (Ent.le_refl _)⟩, hBW⟩
  ·rintro k x ⟨oa, on, oc⟩ B0 W hx hI hbW hBW hB0
   have hxx := stepsL_inv hx
   have hp := hok.place (List.mem_of_getElem? hxx.1)
   have hq := hok.place (List.mem_of_getElem? hxx.2)
   have hpz := hok.bd _ (List.mem_of_getElem? hxx.1)
   have hqz := hok.bd _ (List.mem_of_getElem? hxx.2)
   have hris := hok.rise _ _ _ hxx.1 hxx.2
   have hsl := strmL_len hok kind _ _ hxx.1
   have hvb := lenV_bd (kind := kind) hp hq hpz.2.2.2.2.2.1 hqz.2.2.2.2.2.1
   obtain ⟨hIk, hIn⟩ := hI
   dsimp only at hIk hIn ⊢
   intro Ka5 hKa5
   simp only [alp]
   refine wp_seq' fun K6 hK6 => ?_
   refine wp_reg ?_
   refine ol_alloc 6 z111 rfl fun b6 => ?_
   refine ol_store (id := 6) rfl rfl rfl rfl sz111 rfl rfl (by first | decide | exact Nat.zero_lt_succ _ | simp) ?_
   refine ol_nil (to_k0 (fun _ _ h => h) (hK6 _ _ _ _ _ ?_))
   clear hK6
   refine wp_reg ?_
   refine ol_alloc 7 z111 rfl fun b7 => ?_
   refine ol_store (id := 7) rfl rfl rfl rfl sz111 rfl rfl (by first | decide | exact Nat.zero_lt_succ _ | simp) ?_
   refine ol_nil (to_k0 (fun _ _ h => h) (hKa5 _ _ fun Wb R hbw hBw hn hr => ?_))
   refine wp_block' ?_
   refine wp_seq' fun K7 hK7 => ?_
   refine wp_reg ?_
   refine ol_r (r_fa (o' := 0) rfl fl111_0 rfl) rfl ?_
   refine ol_r (r_ld (id := 7) rfl rfl rfl sc3) rfl ?_
   refine ol_r (r_fa (o' := 0) rfl fl111_0 rfl) rfl ?_
   refine ol_r (r_ld (id := 6) rfl rfl rfl sc3) rfl ?_
   refine ol_r (r_sub rfl rfl (by omega)) rfl ?_
   refine ol_r (r_assign rfl) rfl ?_
   refine ol_nil (to_k0 (fun _ _ h => h) (hK7 _ _ _ _ _ ?_))
   clear hK7
   refine wp_seq' fun K8 hK8 => ?_
   refine wp_reg ?_
   refine ol_r (r_assign rfl) rfl ?_
   refine ol_r (r_assign rfl) rfl ?_
   refine ol_nil (to_k0 (fun _ _ h => h) (hK8 _ _ _ _ _ ?_))
   clear hK8
   refine wp_seq' fun K9 hK9 => ?_
   refine wp_seq' fun K10 hK10 => ?_
   refine wp_reg ?_
   refine ol_r (r_ld (id := 3) rfl rfl rfl sc3) rfl ?_
   refine ol_nil (to_k0 (fun _ _ h => h) (hK10 _ _ _ _ _ ?_))
   clear hK10
   refine wp_block' ?_
   refine wp_seq' fun K11 hK11 => ?_
   refine wp_reg ?_
   refine ol_r (r_eql rfl rfl) rfl ?_
   refine ol_r (r_assign rfl) rfl ?_
   refine ol_nil (to_k0 (fun _ _ h => h) (hK11 _ _ _ _ _ ?_))
   clear hK11
   first | refine wp_condD rfl (fun hc31 => ?_) (fun hc31 => ?_) | refine wp_condN rfl (fun hc31 => ?_) (fun hc31 => ?_) | refine wp_condNB rfl (fun hc31 => ?_) (fun hc31 => ?_) | refine wp_cond' rfl (fun hc31 => ?_) (fun hc31 => ?_)
   ·refine wp_reg ?_
    refine ol_r (r_fa (o' := 4) rfl fl111_4 rfl) rfl ?_
    refine ol_r (r_ld (id := 6) rfl rfl rfl sc3) rfl ?_
    refine ol_r (r_assign rfl) rfl ?_
    refine ol_nil (to_k0 (fun _ _ h => h) (hK9 _ _ _ _ _ ?_))
    clear hK9
    refine wp_seq' fun K12 hK12 => ?_
    refine wp_reg ?_
    refine ol_r (r_move rfl) rfl ?_
    refine ol_r (r_move rfl) rfl ?_
    refine ol_nil (to_k0 (fun _ _ h => h) (hK12 _ _ _ _ _ ?_))
    clear hK12
    refine wp_block' ?_
    apply wp_loopM (σ := Nat × Option Addr × Nat × Nat) (fun s => (s.1 : Int) ≤ x.2.at_ - x.1.at_ ∧ s.2.2.1 = on + s.1) (fun s => [(52, .int .i64 s.1)]) [(4, _), (5, _), (8, _), (9, _), (10, _), (51, _)] (fun s => [(5, .blk b5 [(0, .slice s.2.1 s.2.2.1 s.2.2.2)] 22), (14, .row s.2.1 s.2.2.1 s.2.2.2 (encI.enc (strmL kind A.ss k ++ (stepV kind x.1 x.2).take s.1)) 3 1)]) [(2, _), (3, _), (6, _), (7, _), (1001, _)] (fun s => (x.2.at_ - x.1.at_).toNat - s.1) ((0, _, _, _))
    ·try dsimp only
     exact ⟨by omega, rfl⟩
    ·exact (sub_cons rfl sub_nil)
    ·exact (sub_cons rfl (sub_cons rfl (sub_cons rfl (sub_cons rfl (sub_cons rfl (sub_cons rfl sub_nil))))))
    ·exact (subH_blk rfl (sub_cons rfl sub_nil) (subH_row rfl (by first | (dsimp only; rw [List.take_zero, List.append_nil]; done) | (rw [List.take_zero, List.append_nil]; done) | (dsimp only; done)) subH_nil))
    ·exact (subH_same rfl (subH_same rfl (subH_same rfl (subH_same rfl (subH_same rfl subH_nil)))))
    ·rintro ⟨j, ja, jn, jc⟩ ⟨hj, hjn⟩
     dsimp only at hj hjn ⊢
     intro K13 hK13
     refine wp_seq' fun K14 hK14 => ?_
     refine wp_reg ?_
     refine ol_r (r_lss rfl rfl) rfl ?_
     refine ol_nil (to_k0 (fun _ _ h => h) (hK14 _ _ _ _ _ ?_))
     clear hK14
     refine wp_seq' fun K15 hK15 => ?_
     first | refine wp_condD rfl (fun hc53 => ?_) (fun hc53 => ?_) | refine wp_condN rfl (fun hc53 => ?_) (fun hc53 => ?_) | refine wp_condNB rfl (fun hc53 => ?_) (fun hc53 => ?_) | refine wp_cond' rfl (fun hc53 => ?_) (fun hc53 => ?_)
     ·refine wp_skip' (to_k0 (fun _ _ h => h) (hK15 _ _ _ _ _ ?_))
      clear hK15
      refine wp_seq' fun K16 hK16 => ?_
      refine wp_block' ?_
      refine wp_seq' fun K17 hK17 => ?_
      refine wp_reg ?_
      refine ol_r (r_move rfl) rfl ?_
      refine ol_r (r_assign rfl) rfl ?_
      refine ol_nil (to_k0 (fun _ _ h => h) (hK17 _ _ _ _ _ ?_))
      clear hK17
      refine wp_block' ?_
      refine wp_seq' fun K18 hK18 => ?_
      refine wp_reg ?_
      refine ol_r (r_move rfl) rfl ?_
      refine ol_r (r_gtr rfl rfl) rfl ?_
      refine ol_r (r_move rfl) rfl ?_
      refine ol_split (d := 62) rfl (fun hs62 => ?_) (fun hs62 => ?_)
      ·have phs62 := hs62; try simp only [decide_eq_true_eq, decide_eq_false_iff_not, Bool.not_eq_true', Bool.not_eq_false', Bool.not_true, Bool.not_false] at phs62
       refine ol_g rfl rfl hs62 ?_
       refine ol_r (r_move rfl) rfl ?_
       refine ol_r (r_pickT rfl hs62 rfl) rfl ?_
       refine ol_r (r_assign rfl) rfl ?_
       refine ol_nil (to_k0 (fun _ _ h => h) (hK18 _ _ _ _ _ ?_))
       clear hK18
       refine wp_condF rfl ?_
       refine wp_seq' fun K19 hK19 => ?_
       refine wp_reg ?_
       refine ol_r (r_move rfl) rfl ?_
       refine ol_r (r_gtr rfl rfl) rfl ?_
       refine ol_r (r_assign rfl) rfl ?_
       refine ol_nil (to_k0 (fun _ _ h => h) (hK19 _ _ _ _ _ ?_))
       clear hK19
       first | refine wp_condD rfl (fun hc68 => ?_) (fun hc68 => ?_) | refine wp_condN rfl (fun hc68 => ?_) (fun hc68 => ?_) | refine wp_condNB rfl (fun hc68 => ?_) (fun hc68 => ?_) | refine wp_cond' rfl (fun hc68 => ?_) (fun hc68 => ?_)
       ·refine wp_reg ?_
        refine ol_r (r_ld (id := 5) rfl rfl rfl sc22) rfl ?_
        refine ol_bs1 72 rfl rfl rw22 rfl rfl rfl fun a72 => ?_
        refine ol_append1 (id := 14) (id2 := 72) rfl rfl rfl rfl rfl rw22 (by omega) rfl fun a73 c73 => ?_
        refine ol_store (id := 5) rfl rfl rfl rfl sz22 rfl rfl (by first | decide | exact Nat.zero_lt_succ _ | simp) ?_
        refine ol_nil (to_k0 (fun _ _ h => h) (hK16 _ _ _ _ _ ?_))
        clear hK16
        refine wp_reg ?_
        refine ol_r (r_add rfl rfl (by omega)) rfl ?_
        refine ol_r (r_move rfl) rfl ?_
        refine ol_nil (to_k0 (fun _ _ h => h) (hK13 ((j + 1, _, _, _)) _ _ ?_ ?_ (sub_cons rfl sub_nil) (sub_cons rfl (sub_cons rfl (sub_cons rfl (sub_cons rfl (sub_cons rfl (sub_cons rfl sub_nil)))))) (by exact (subH_blk rfl (sub_cons rfl sub_nil) (subH_row rfl (by first | (dsimp only; first | (rw [stepV_snoc (by omega) (elV_big (by omega) (by omega)), ← List.append_assoc, encI_snoc]; done) | (rw [stepV_snoc (by omega) (elV_gap (by omega) (by omega)), ← List.append_assoc, encI_snoc]; done) | (rw [stepV_snoc (by omega) (elV_len (by omega) (by omega)), lenV_4 (by omega), ← List.append_assoc, encI_snoc]; done) | (rw [stepV_snoc (by omega) (elV_len (by omega) (by omega)), lenV_5 (by omega), ← List.append_assoc, encI_snoc]; done) | (rw [stepV_snoc (by omega) ((elV_val (by omega) (by omega)).trans (valV_1 (by omega))), ← List.append_assoc, encI_snoc]; done) | (rw [stepV_snoc (by omega) ((elV_val (by omega) (by omega)).trans (valV_2 (by omega))), ← List.append_assoc, encI_snoc]; done) | (rw [stepV_snoc (by omega) ((elV_val (by omega) (by omega)).trans (valV_3 (by omega))), ← List.append_assoc, encI_snoc]; done); done) | (first | (rw [stepV_snoc (by omega) (elV_big (by omega) (by omega)), ← List.append_assoc, encI_snoc]; done) | (rw [stepV_snoc (by omega) (elV_gap (by omega) (by omega)), ← List.append_assoc, encI_snoc]; done) | (rw [stepV_snoc (by omega) (elV_len (by omega) (by omega)), lenV_4 (by omega), ← List.append_assoc, encI_snoc]; done) | (rw [stepV_snoc (by omega) (elV_len (by omega) (by omega)), lenV_5 (by omega), ← List.append_assoc, encI_snoc]; done) | (rw [stepV_snoc (by omega) ((elV_val (by omega) (by omega)).trans (valV_1 (by omega))), ← List.append_assoc, encI_snoc]; done) | (rw [stepV_snoc (by omega) ((elV_val (by omega) (by omega)).trans (valV_2 (by omega))), ← List.append_assoc, encI_snoc]; done) | (rw [stepV_snoc (by omega) ((elV_val (by omega) (by omega)).trans (valV_3 (by omega))), ← List.append_assoc, encI_snoc]; done); done) | (dsimp only; done)) subH_nil))) (subH_same rfl (subH_same rfl (subH_same rfl (subH_same rfl (subH_same rfl subH_nil)))))))
        ·try dsimp only
         exact ⟨by omega, by omega⟩
        ·try dsimp only
         omega
       ·refine wp_seq' fun K20 hK20 => ?_
        refine wp_reg ?_
        refine ol_r (r_move rfl) rfl ?_
        refine ol_r (r_assign rfl) rfl ?_
        refine ol_nil (to_k0 (fun _ _ h => h) (hK20 _ _ _ _ _ ?_))
        clear hK20
        refine wp_condF rfl ?_
        refine wp_reg ?_
        refine ol_r (r_ld (id := 5) rfl rfl rfl sc22) rfl ?_
        refine ol_r (r_move rfl) rfl ?_
        refine ol_bs1 57 rfl rfl rw22 rfl rfl rfl fun a57 => ?_
        refine ol_append1 (id := 14) (id2 := 57) rfl rfl rfl rfl rfl rw22 (by omega) rfl fun a58 c58 => ?_
        refine ol_store (id := 5) rfl rfl rfl rfl sz22 rfl rfl (by first | decide | exact Nat.zero_lt_succ _ | simp) ?_
        refine ol_nil (to_k0 (fun _ _ h => h) (hK16 _ _ _ _ _ ?_))
        clear hK16
        refine wp_reg ?_
        refine ol_r (r_add rfl rfl (by omega)) rfl ?_
        refine ol_r (r_move rfl) rfl ?_
        refine ol_nil (to_k0 (fun _ _ h => h) (hK13 ((j + 1, _, _, _)) _ _ ?_ ?_ (sub_cons rfl sub_nil) (sub_cons rfl (sub_cons rfl (sub_cons rfl (sub_cons rfl (sub_cons rfl (sub_cons rfl sub_nil)))))) (by exact (subH_blk rfl (sub_cons rfl sub_nil) (subH_row rfl (by first | (dsimp only; first | (rw [stepV_snoc (by omega) (elV_big (by omega) (by omega)), ← List.append_assoc, encI_snoc]; done) | (rw [stepV_snoc (by omega) (elV_gap (by omega) (by omega)), ← List.append_assoc, encI_snoc]; done) | (rw [stepV_snoc (by omega) (elV_len (by omega) (by omega)), lenV_4 (by omega), ← List.append_assoc, encI_snoc]; done) | (rw [stepV_snoc (by omega) (elV_len (by omega) (by omega)), lenV_5 (by omega), ← List.append_assoc, encI_snoc]; done) | (rw [stepV_snoc (by omega) ((elV_val (by omega) (by omega)).trans (valV_1 (by omega))), ← List.append_assoc, encI_snoc]; done) | (rw [stepV_snoc (by omega) ((elV_val (by omega) (by omega)).trans (valV_2 (by omega))), ← List.append_assoc, encI_snoc]; done) | (rw [stepV_snoc (by omega) ((elV_val (by omega) (by omega)).trans (valV_3 (by omega))), ← List.append_assoc, encI_snoc]; done); done) | (first | (rw [stepV_snoc (by omega) (elV_big (by omega) (by omega)), ← List.append_assoc, encI_snoc]; done) | (rw [stepV_snoc (by omega) (elV_gap (by omega) (by omega)), ← List.append_assoc, encI_snoc]; done) | (rw [stepV_snoc (by omega) (elV_len (by omega) (by omega)), lenV_4 (by omega), ← List.append_assoc, encI_snoc]; done) | (rw [stepV_snoc (by omega) (elV_len (by omega) (by omega)), lenV_5 (by omega), ← List.append_assoc, encI_snoc]; done) | (rw [stepV_snoc (by omega) ((elV_val (by omega) (by omega)).trans (valV_1 (by omega))), ← List.append_assoc, encI_snoc]; done) | (rw [stepV_snoc (by omega) ((elV_val (by omega) (by omega)).trans (valV_2 (by omega))), ← List.append_assoc, encI_snoc]; done) | (rw [stepV_snoc (by omega) ((elV_val (by omega) (by omega)).trans (valV_3 (by omega))), ← List.append_assoc, encI_snoc]; done); done) | (dsimp only; done)) subH_nil))) (subH_same rfl (subH_same rfl (subH_same rfl (subH_same rfl (subH_same rfl subH_nil)))))))
        ·try dsimp only
         exact ⟨by omega, by omega⟩
        ·try dsimp only
         omega
      ·have phs62 := hs62; try simp only [decide_eq_true_eq, decide_eq_false_iff_not, Bool.not_eq_true', Bool.not_eq_false', Bool.not_true, Bool.not_false] at phs62
       refine ol_s rfl rfl hs62 rfl ?_
       refine ol_r (r_pickF rfl hs62 rfl) rfl ?_
       refine ol_r (r_assign rfl) rfl ?_
       refine ol_nil (to_k0 (fun _ _ h => h) (hK18 _ _ _ _ _ ?_))
       clear hK18
       refine wp_condF rfl ?_
       refine wp_seq' fun K21 hK21 => ?_
       refine wp_reg ?_
       refine ol_r (r_move rfl) rfl ?_
       refine ol_r (r_gtr rfl rfl) rfl ?_
       refine ol_r (r_assign rfl) rfl ?_
       refine ol_nil (to_k0 (fun _ _ h => h) (hK21 _ _ _ _ _ ?_))
       clear hK21
       first | refine wp_condD rfl (fun hc68 => ?_) (fun hc68 => ?_) | refine wp_condN rfl (fun hc68 => ?_) (fun hc68 => ?_) | refine wp_condNB rfl (fun hc68 => ?_) (fun hc68 => ?_) | refine wp_cond' rfl (fun hc68 => ?_) (fun hc68 => ?_)
       ·refine wp_reg ?_
        refine ol_r (r_ld (id := 5) rfl rfl rfl sc22) rfl ?_
        refine ol_bs1 72 rfl rfl rw22 rfl rfl rfl fun a72 => ?_
        refine ol_append1 (id := 14) (id2 := 72) rfl rfl rfl rfl rfl rw22 (by omega) rfl fun a73 c73 => ?_
        refine ol_store (id := 5) rfl rfl rfl rfl sz22 rfl rfl (by first | decide | exact Nat.zero_lt_succ _ | simp) ?_
        refine ol_nil (to_k0 (fun _ _ h => h) (hK16 _ _ _ _ _ ?_))
        clear hK16
        refine wp_reg ?_
        refine ol_r (r_add rfl rfl (by omega)) rfl ?_
        refine ol_r (r_move rfl) rfl ?_
        refine ol_nil (to_k0 (fun _ _ h => h) (hK13 ((j + 1, _, _, _)) _ _ ?_ ?_ (sub_cons rfl sub_nil) (sub_cons rfl (sub_cons rfl (sub_cons rfl (sub_cons rfl (sub_cons rfl (sub_cons rfl sub_nil)))))) (by exact (subH_blk rfl (sub_cons rfl sub_nil) (subH_row rfl (by first | (dsimp only; first | (rw [stepV_snoc (by omega) (elV_big (by omega) (by omega)), ← List.append_assoc, encI_snoc]; done) | (rw [stepV_snoc (by omega) (elV_gap (by omega) (by omega)), ← List.append_assoc, encI_snoc]; done) | (rw [stepV_snoc (by omega) (elV_len (by omega) (by omega)), lenV_4 (by omega), ← List.append_assoc, encI_snoc]; done) | (rw [stepV_snoc (by omega) (elV_len (by omega) (by omega)), lenV_5 (by omega), ← List.append_assoc, encI_snoc]; done) | (rw [stepV_snoc (by omega) ((elV_val (by omega) (by omega)).trans (valV_1 (by omega))), ← List.append_assoc, encI_snoc]; done) | (rw [stepV_snoc (by omega) ((elV_val (by omega) (by omega)).trans (valV_2 (by omega))), ← List.append_assoc, encI_snoc]; done) | (rw [stepV_snoc (by omega) ((elV_val (by omega) (by omega)).trans (valV_3 (by omega))), ← List.append_assoc, encI_snoc]; done); done) | (first | (rw [stepV_snoc (by omega) (elV_big (by omega) (by omega)), ← List.append_assoc, encI_snoc]; done) | (rw [stepV_snoc (by omega) (elV_gap (by omega) (by omega)), ← List.append_assoc, encI_snoc]; done) | (rw [stepV_snoc (by omega) (elV_len (by omega) (by omega)), lenV_4 (by omega), ← List.append_assoc, encI_snoc]; done) | (rw [stepV_snoc (by omega) (elV_len (by omega) (by omega)), lenV_5 (by omega), ← List.append_assoc, encI_snoc]; done) | (rw [stepV_snoc (by omega) ((elV_val (by omega) (by omega)).trans (valV_1 (by omega))), ← List.append_assoc, encI_snoc]; done) | (rw [stepV_snoc (by omega) ((elV_val (by omega) (by omega)).trans (valV_2 (by omega))), ← List.append_assoc, encI_snoc]; done) | (rw [stepV_snoc (by omega) ((elV_val (by omega) (by omega)).trans (valV_3 (by omega))), ← List.append_assoc, encI_snoc]; done); done) | (dsimp only; done)) subH_nil))) (subH_same rfl (subH_same rfl (subH_same rfl (subH_same rfl (subH_same rfl subH_nil)))))))
        ·try dsimp only
         exact ⟨by omega, by omega⟩
        ·try dsimp only
         omega
       ·refine wp_seq' fun K22 hK22 => ?_
        refine wp_reg ?_
        refine ol_r (r_move rfl) rfl ?_
        refine ol_r (r_assign rfl) rfl ?_
        refine ol_nil (to_k0 (fun _ _ h => h) (hK22 _ _ _ _ _ ?_))
        clear hK22
        refine wp_condF rfl ?_
        refine wp_reg ?_
        refine ol_r (r_ld (id := 5) rfl rfl rfl sc22) rfl ?_
        refine ol_r (r_move rfl) rfl ?_
        refine ol_bs1 57 rfl rfl rw22 rfl rfl rfl fun a57 => ?_
        refine ol_append1 (id := 14) (id2 := 57) rfl rfl rfl rfl rfl rw22 (by omega) rfl fun a58 c58 => ?_
        refine ol_store (id := 5) rfl rfl rfl rfl sz22 rfl rfl (by first | decide | exact Nat.zero_lt_succ _ | simp) ?_
        refine ol_nil (to_k0 (fun _ _ h => h) (hK16 _ _ _ _ _ ?_))
        clear hK16
        refine wp_reg ?_
        refine ol_r (r_add rfl rfl (by omega)) rfl ?_
        refine ol_r (r_move rfl) rfl ?_
        refine ol_nil (to_k0 (fun _ _ h => h) (hK13 ((j + 1, _, _, _)) _ _ ?_ ?_ (sub_cons rfl sub_nil) (sub_cons rfl (sub_cons rfl (sub_cons rfl (sub_cons rfl (sub_cons rfl (sub_cons rfl sub_nil)))))) (by exact (subH_blk rfl (sub_cons rfl sub_nil) (subH_row rfl (by first | (dsimp only; first | (rw [stepV_snoc (by omega) (elV_big (by omega) (by omega)), ← List.append_assoc, encI_snoc]; done) | (rw [stepV_snoc (by omega) (elV_gap (by omega) (by omega)), ← List.append_assoc, encI_snoc]; done) | (rw [stepV_snoc (by omega) (elV_len (by omega) (by omega)), lenV_4 (by omega), ← List.append_assoc, encI_snoc]; done) | (rw [stepV_snoc (by omega) (elV_len (by omega) (by omega)), lenV_5 (by omega), ← List.append_assoc, encI_snoc]; done) | (rw [stepV_snoc (by omega) ((elV_val (by omega) (by omega)).trans (valV_1 (by omega))), ← List.append_assoc, encI_snoc]; done) | (rw [stepV_snoc (by omega) ((elV_val (by omega) (by omega)).trans (valV_2 (by omega))), ← List.append_assoc, encI_snoc]; done) | (rw [stepV_snoc (by omega) ((elV_val (by omega) (by omega)).trans (valV_3 (by omega))), ← List.append_assoc, encI_snoc]; done); done) | (first | (rw [stepV_snoc (by omega) (elV_big (by omega) (by omega)), ← List.append_assoc, encI_snoc]; done) | (rw [stepV_snoc (by omega) (elV_gap (by omega) (by omega)), ← List.append_assoc, encI_snoc]; done) | (rw [stepV_snoc (by omega) (elV_len (by omega) (by omega)), lenV_4 (by omega), ← List.append_assoc, encI_snoc]; done) | (rw [stepV_snoc (by omega) (elV_len (by omega) (by omega)), lenV_5 (by omega), ← List.append_assoc, encI_snoc]; done) | (rw [stepV_snoc (by omega) ((elV_val (by omega) (by omega)).trans (valV_1 (by omega))), ← List.append_assoc, encI_snoc]; done) | (rw [stepV_snoc (by omega) ((elV_val (by omega) (by omega)).trans (valV_2 (by omega))), ← List.append_assoc, encI_snoc]; done) | (rw [stepV_snoc (by omega) ((elV_val (by omega) (by omega)).trans (valV_3 (by omega))), ← List.append_assoc, encI_snoc]; done); done) | (dsimp only; done)) subH_nil))) (subH_same rfl (subH_same rfl (subH_same rfl (subH_same rfl (subH_same rfl subH_nil)))))))
        ·try dsimp only
         exact ⟨by omega, by omega⟩
        ·try dsimp only
         omega
     ·refine wp_exit' (QP.of (hn ((_, _, _)) _ _ ?_ (by exact (subH_blk rfl (sub_cons rfl sub_nil) (subH_row rfl (by first | (dsimp only; rw [strmL_succ hx, List.take_of_length_le (by rw [stepV_len]; omega)]; done) | (rw [strmL_succ hx, List.take_of_length_le (by rw [stepV_len]; omega)]; done) | (dsimp only; done)) subH_nil))) (subH_same rfl (subH_same rfl (subH_same rfl subH_nil)))) (fun _ _ h => h))
      try dsimp only
      refine ⟨by have := (List.getElem?_eq_some_iff.1 hx).1; omega, ?_⟩
      rw [strmL_succ hx, List.length_append, stepV_len]
      omega
   ·refine wp_seq' fun K23 hK23 => ?_
    refine wp_reg ?_
    refine ol_r (r_eql rfl rfl) rfl ?_
    refine ol_r (r_assign rfl) rfl ?_
    refine ol_nil (to_k0 (fun _ _ h => h) (hK23 _ _ _ _ _ ?_))
    clear hK23
    first | refine wp_condD rfl (fun hc35 => ?_) (fun hc35 => ?_) | refine wp_condN rfl (fun hc35 => ?_) (fun hc35 => ?_) | refine wp_condNB rfl (fun hc35 => ?_) (fun hc35 => ?_) | refine wp_cond' rfl (fun hc35 => ?_) (fun hc35 => ?_)
    ·refine wp_reg ?_
     refine ol_r (r_fa (o' := 5) rfl fl111_5 rfl) rfl ?_
     refine ol_r (r_ld (id := 6) rfl rfl rfl sc3) rfl ?_
     refine ol_r (r_assign rfl) rfl ?_
     refine ol_nil (to_k0 (fun _ _ h => h) (hK9 _ _ _ _ _ ?_))
     clear hK9
     refine wp_seq' fun K24 hK24 => ?_
     refine wp_reg ?_
     refine ol_r (r_move rfl) rfl ?_
     refine ol_r (r_move rfl) rfl ?_
     refine ol_nil (to_k0 (fun _ _ h => h) (hK24 _ _ _ _ _ ?_))
     clear hK24
     refine wp_block' ?_
     apply wp_loopM (σ := Nat × Option Addr × Nat × Nat) (fun s => (s.1 : Int) ≤ x.2.at_ - x.1.at_ ∧ s.2.2.1 = on + s.1) (fun s => [(52, .int .i64 s.1)]) [(4, _), (5, _), (8, _), (9, _), (10, _), (51, _)] (fun s => [(5, .blk b5 [(0, .slice s.2.1 s.2.2.1 s.2.2.2)] 22), (14, .row s.2.1 s.2.2.1 s.2.2.2 (encI.enc (strmL kind A.ss k ++ (stepV kind x.1 x.2).take s.1)) 3 1)]) [(2, _), (3, _), (6, _), (7, _), (1001, _)] (fun s => (x.2.at_ - x.1.at_).toNat - s.1) ((0, _, _, _))
     ·try dsimp only
      exact ⟨by omega, rfl⟩
     ·exact (sub_cons rfl sub_nil)
     ·exact (sub_cons rfl (sub_cons rfl (sub_cons rfl (sub_cons rfl (sub_cons rfl (sub_cons rfl sub_nil))))))
     ·exact (subH_blk rfl (sub_cons rfl sub_nil) (subH_row rfl (by first | (dsimp only; rw [List.take_zero, List.append_nil]; done) | (rw [List.take_zero, List.append_nil]; done) | (dsimp only; done)) subH_nil))
     ·exact (subH_same rfl (subH_same rfl (subH_same rfl (subH_same rfl (subH_same rfl subH_nil)))))
     ·rintro ⟨j, ja, jn, jc⟩ ⟨hj, hjn⟩
      dsimp only at hj hjn ⊢
      intro K25 hK25
      refine wp_seq' fun K26 hK26 => ?_
      refine wp_reg ?_
      refine ol_r (r_lss rfl rfl) rfl ?_
      refine ol_nil (to_k0 (fun _ _ h => h) (hK26 _ _ _ _ _ ?_))
      clear hK26
      refine wp_seq' fun K27 hK27 => ?_
      first | refine wp_condD rfl (fun hc53 => ?_) (fun hc53 => ?_) | refine wp_condN rfl (fun hc53 => ?_) (fun hc53 => ?_) | refine wp_condNB rfl (fun hc53 => ?_) (fun hc53 => ?_) | refine wp_cond' rfl (fun hc53 => ?_) (fun hc53 => ?_)
      ·refine wp_skip' (to_k0 (fun _ _ h => h) (hK27 _ _ _ _ _ ?_))
       clear hK27
       refine wp_seq' fun K28 hK28 => ?_
       refine wp_block' ?_
       refine wp_seq' fun K29 hK29 => ?_
       refine wp_reg ?_
       refine ol_r (r_move rfl) rfl ?_
       refine ol_r (r_assign rfl) rfl ?_
       refine ol_nil (to_k0 (fun _ _ h => h) (hK29 _ _ _ _ _ ?_))
       clear hK29
       refine wp_block' ?_
       refine wp_seq' fun K30 hK30 => ?_
       refine wp_reg ?_
       refine ol_r (r_move rfl) rfl ?_
       refine ol_r (r_gtr rfl rfl) rfl ?_
       refine ol_r (r_move rfl) rfl ?_
       refine ol_split (d := 62) rfl (fun hs62 => ?_) (fun hs62 => ?_)
       ·have phs62 := hs62; try simp only [decide_eq_true_eq, decide_eq_false_iff_not, Bool.not_eq_true', Bool.not_eq_false', Bool.not_true, Bool.not_false] at phs62
        refine ol_g rfl rfl hs62 ?_
        refine ol_r (r_move rfl) rfl ?_
        refine ol_r (r_pickT rfl hs62 rfl) rfl ?_
        refine ol_r (r_assign rfl) rfl ?_
        refine ol_nil (to_k0 (fun _ _ h => h) (hK30 _ _ _ _ _ ?_))
        clear hK30
        refine wp_condF rfl ?_
        refine wp_seq' fun K31 hK31 => ?_
        refine wp_reg ?_
        refine ol_r (r_move rfl) rfl ?_
        refine ol_r (r_gtr rfl rfl) rfl ?_
        refine ol_r (r_assign rfl) rfl ?_
        refine ol_nil (to_k0 (fun _ _ h => h) (hK31 _ _ _ _ _ ?_))
        clear hK31
        first | refine wp_condD rfl (fun hc68 => ?_) (fun hc68 => ?_) | refine wp_condN rfl (fun hc68 => ?_) (fun hc68 => ?_) | refine wp_condNB rfl (fun hc68 => ?_) (fun hc68 => ?_) | refine wp_cond' rfl (fun hc68 => ?_) (fun hc68 => ?_)
        ·refine wp_reg ?_
         refine ol_r (r_ld (id := 5) rfl rfl rfl sc22) rfl ?_
         refine ol_bs1 72 rfl rfl rw22 rfl rfl rfl fun a72 => ?_
         refine ol_append1 (id := 14) (id2 := 72) rfl rfl rfl rfl rfl rw22 (by omega) rfl fun a73 c73 => ?_
         refine ol_store (id := 5) rfl rfl rfl rfl sz22 rfl rfl (by first | decide | exact Nat.zero_lt_succ _ | simp) ?_
         refine ol_nil (to_k0 (fun _ _ h => h) (hK28 _ _ _ _ _ ?_))
         clear hK28
         refine wp_reg ?_
         refine ol_r (r_add rfl rfl (by omega)) rfl ?_
         refine ol_r (r_move rfl) rfl ?_
         refine ol_nil (to_k0 (fun _ _ h => h) (hK25 ((j + 1, _, _, _)) _ _ ?_ ?_ (sub_cons rfl sub_nil) (sub_cons rfl (sub_cons rfl (sub_cons rfl (sub_cons rfl (sub_cons rfl (sub_cons rfl sub_nil)))))) (by exact (subH_blk rfl (sub_cons rfl sub_nil) (subH_row rfl (by first | (dsimp only; first | (rw [stepV_snoc (by omega) (elV_big (by omega) (by omega)), ← List.append_assoc, encI_snoc]; done) | (rw [stepV_snoc (by omega) (elV_gap (by omega) (by omega)), ← List.append_assoc, encI_snoc]; done) | (rw [stepV_snoc (by omega) (elV_len (by omega) (by omega)), lenV_4 (by omega), ← List.append_assoc, encI_snoc]; done) | (rw [stepV_snoc (by omega) (elV_len (by omega) (by omega)), lenV_5 (by omega), ← List.append_assoc, encI_snoc]; done) | (rw [stepV_snoc (by omega) ((elV_val (by omega) (by omega)).trans (valV_1 (by omega))), ← List.append_assoc, encI_snoc]; done) | (rw [stepV_snoc (by omega) ((elV_val (by omega) (by omega)).trans (valV_2 (by omega))), ← List.append_assoc, encI_snoc]; done) | (rw [stepV_snoc (by omega) ((elV_val (by omega) (by omega)).trans (valV_3 (by omega))), ← List.append_assoc, encI_snoc]; done); done) | (first | (rw [stepV_snoc (by omega) (elV_big (by omega) (by omega)), ← List.append_assoc, encI_snoc]; done) | (rw [stepV_snoc (by omega) (elV_gap (by omega) (by omega)), ← List.append_assoc, encI_snoc]; done) | (rw [stepV_snoc (by omega) (elV_len (by omega) (by omega)), lenV_4 (by omega), ← List.append_assoc, encI_snoc]; done) | (rw [stepV_snoc (by omega) (elV_len (by omega) (by omega)), lenV_5 (by omega), ← List.append_assoc, encI_snoc]; done) | (rw [stepV_snoc (by omega) ((elV_val (by omega) (by omega)).trans (valV_1 (by omega))), ← List.append_assoc, encI_snoc]; done) | (rw [stepV_snoc (by omega) ((elV_val (by omega) (by omega)).trans (valV_2 (by omega))), ← List.append_assoc, encI_snoc]; done) | (rw [stepV_snoc (by omega) ((elV_val (by omega) (by omega)).trans (valV_3 (by omega))), ← List.append_assoc, encI_snoc]; done); done) | (dsimp only; done)) subH_nil))) (subH_same rfl (subH_same rfl (subH_same rfl (subH_same rfl (subH_same rfl subH_nil)))))))
         ·try dsimp only
          exact ⟨by omega, by omega⟩
         ·try dsimp only
          omega
        ·refine wp_seq' fun K32 hK32 => ?_
         refine wp_reg ?_
         refine ol_r (r_move rfl) rfl ?_
         refine ol_r (r_assign rfl) rfl ?_
         refine ol_nil (to_k0 (fun _ _ h => h) (hK32 _ _ _ _ _ ?_))
         clear hK32
         refine wp_condF rfl ?_
         refine wp_reg ?_
         refine ol_r (r_ld (id := 5) rfl rfl rfl sc22) rfl ?_
         refine ol_r (r_move rfl) rfl ?_
         refine ol_bs1 57 rfl rfl rw22 rfl rfl rfl fun a57 => ?_
         refine ol_append1 (id := 14) (id2 := 57) rfl rfl rfl rfl rfl rw22 (by omega) rfl fun a58 c58 => ?_
         refine ol_store (id := 5) rfl rfl rfl rfl sz22 rfl rfl (by first | decide | exact Nat.zero_lt_succ _ | simp) ?_
         refine ol_nil (to_k0 (fun _ _ h => h) (hK28 _ _ _ _ _ ?_))
         clear hK28
         refine wp_reg ?_
         refine ol_r (r_add rfl rfl (by omega)) rfl ?_
         refine ol_r (r_move rfl) rfl ?_
         refine ol_nil (to_k0 (fun _ _ h => h) (hK25 ((j + 1, _, _, _)) _ _ ?_ ?_ (sub_cons rfl sub_nil) (sub_cons rfl (sub_cons rfl (sub_cons rfl (sub_cons rfl (sub_cons rfl (sub_cons rfl sub_nil)))))) (by exact (subH_blk rfl (sub_cons rfl sub_nil) (subH_row rfl (by first | (dsimp only; first | (rw [stepV_snoc (by omega) (elV_big (by omega) (by omega)), ← List.append_assoc, encI_snoc]; done) | (rw [stepV_snoc (by omega) (elV_gap (by omega) (by omega)), ← List.append_assoc, encI_snoc]; done) | (rw [stepV_snoc (by omega) (elV_len (by omega) (by omega)), lenV_4 (by omega), ← List.append_assoc, encI_snoc]; done) | (rw [stepV_snoc (by omega) (elV_len (by omega) (by omega)), lenV_5 (by omega), ← List.append_assoc, encI_snoc]; done) | (rw [stepV_snoc (by omega) ((elV_val (by omega) (by omega)).trans (valV_1 (by omega))), ← List.append_assoc, encI_snoc]; done) | (rw [stepV_snoc (by omega) ((elV_val (by omega) (by omega)).trans (valV_2 (by omega))), ← List.append_assoc, encI_snoc]; done) | (rw [stepV_snoc (by omega) ((elV_val (by omega) (by omega)).trans (valV_3 (by omega))), ← List.append_assoc, encI_snoc]; done); done) | (first | (rw [stepV_snoc (by omega) (elV_big (by omega) (by omega)), ← List.append_assoc, encI_snoc]; done) | (rw [stepV_snoc (by omega) (elV_gap (by omega) (by omega)), ← List.append_assoc, encI_snoc]; done) | (rw [stepV_snoc (by omega) (elV_len (by omega) (by omega)), lenV_4 (by omega), ← List.append_assoc, encI_snoc]; done) | (rw [stepV_snoc (by omega) (elV_len (by omega) (by omega)), lenV_5 (by omega), ← List.append_assoc, encI_snoc]; done) | (rw [stepV_snoc (by omega) ((elV_val (by omega) (by omega)).trans (valV_1 (by omega))), ← List.append_assoc, encI_snoc]; done) | (rw [stepV_snoc (by omega) ((elV_val (by omega) (by omega)).trans (valV_2 (by omega))), ← List.append_assoc, encI_snoc]; done) | (rw [stepV_snoc (by omega) ((elV_val (by omega) (by omega)).trans (valV_3 (by omega))), ← List.append_assoc, encI_snoc]; done); done) | (dsimp only; done)) subH_nil))) (subH_same rfl (subH_same rfl (subH_same rfl (subH_same rfl (subH_same rfl subH_nil)))))))
         ·try dsimp only
          exact ⟨by omega, by omega⟩
         ·try dsimp only
          omega
       ·have phs62 := hs62; try simp only [decide_eq_true_eq, decide_eq_false_iff_not, Bool.not_eq_true', Bool.not_eq_false', Bool.not_true, Bool.not_false] at phs62
        refine ol_s rfl rfl hs62 rfl ?_
        refine ol_r (r_pickF rfl hs62 rfl) rfl ?_
        refine ol_r (r_assign rfl) rfl ?_
        refine ol_nil (to_k0 (fun _ _ h => h) (hK30 _ _ _ _ _ ?_))
        clear hK30
        refine wp_condF rfl ?_
        refine wp_seq' fun K33 hK33 => ?_
        refine wp_reg ?_
        refine ol_r (r_move rfl) rfl ?_
        refine ol_r (r_gtr rfl rfl) rfl ?_
        refine ol_r (r_assign rfl) rfl ?_
        refine ol_nil (to_k0 (fun _ _ h => h) (hK33 _ _ _ _ _ ?_))
        clear hK33
        first | refine wp_condD rfl (fun hc68 => ?_) (fun hc68 => ?_) | refine wp_condN rfl (fun hc68 => ?_) (fun hc68 => ?_) | refine wp_condNB rfl (fun hc68 => ?_) (fun hc68 => ?_) | refine wp_cond' rfl (fun hc68 => ?_) (fun hc68 => ?_)
        ·refine wp_reg ?_
         refine ol_r (r_ld (id := 5) rfl rfl rfl sc22) rfl ?_
         refine ol_bs1 72 rfl rfl rw22 rfl rfl rfl fun a72 => ?_
         refine ol_append1 (id := 14) (id2 := 72) rfl rfl rfl rfl rfl rw22 (by omega) rfl fun a73 c73 => ?_
         refine ol_store (id := 5) rfl rfl rfl rfl sz22 rfl rfl (by first | decide | exact Nat.zero_lt_succ _ | simp) ?_
         refine ol_nil (to_k0 (fun _ _ h => h) (hK28 _ _ _ _ _ ?_))
         clear hK28
         refine wp_reg ?_
         refine ol_r (r_add rfl rfl (by omega)) rfl ?_
         refine ol_r (r_move rfl) rfl ?_
         refine ol_nil (to_k0 (fun _ _ h => h) (hK25 ((j + 1, _, _, _)) _ _ ?_ ?_ (sub_cons rfl sub_nil) (sub_cons rfl (sub_cons rfl (sub_cons rfl (sub_cons rfl (sub_cons rfl (sub_cons rfl sub_nil)))))) (by exact (subH_blk rfl (sub_cons rfl sub_nil) (subH_row rfl (by first | (dsimp only; first | (rw [stepV_snoc (by omega) (elV_big (by omega) (by omega)), ← List.append_assoc, encI_snoc]; done) | (rw [stepV_snoc (by omega) (elV_gap (by omega) (by omega)), ← List.append_assoc, encI_snoc]; done) | (rw [stepV_snoc (by omega) (elV_len (by omega) (by omega)), lenV_4 (by omega), ← List.append_assoc, encI_snoc]; done) | (rw [stepV_snoc (by omega) (elV_len (by omega) (by omega)), lenV_5 (by omega), ← List.append_assoc, encI_snoc]; done) | (rw [stepV_snoc (by omega) ((elV_val (by omega) (by omega)).trans (valV_1 (by omega))), ← List.append_assoc, encI_snoc]; done) | (rw [stepV_snoc (by omega) ((elV_val (by omega) (by omega)).trans (valV_2 (by omega))), ← List.append_assoc, encI_snoc]; done) | (rw [stepV_snoc (by omega) ((elV_val (by omega) (by omega)).trans (valV_3 (by omega))), ← List.append_assoc, encI_snoc]; done); done) | (first | (rw [stepV_snoc (by omega) (elV_big (by omega) (by omega)), ← List.append_assoc, encI_snoc]; done) | (rw [stepV_snoc (by omega) (elV_gap (by omega) (by omega)), ← List.append_assoc, encI_snoc]; done) | (rw [stepV_snoc (by omega) (elV_len (by omega) (by omega)), lenV_4 (by omega), ← List.append_assoc, encI_snoc]; done) | (rw [stepV_snoc (by omega) (elV_len (by omega) (by omega)), lenV_5 (by omega), ← List.append_assoc, encI_snoc]; done) | (rw [stepV_snoc (by omega) ((elV_val (by omega) (by omega)).trans (valV_1 (by omega))), ← List.append_assoc, encI_snoc]; done) | (rw [stepV_snoc (by omega) ((elV_val (by omega) (by omega)).trans (valV_2 (by omega))), ← List.append_assoc, encI_snoc]; done) | (rw [stepV_snoc (by omega) ((elV_val (by omega) (by omega)).trans (valV_3 (by omega))), ← List.append_assoc, encI_snoc]; done); done) | (dsimp only; done)) subH_nil))) (subH_same rfl (subH_same rfl (subH_same rfl (subH_same rfl (subH_same rfl subH_nil)))))))
         ·try dsimp only
          exact ⟨by omega, by omega⟩
         ·try dsimp only
          omega
        ·refine wp_seq' fun K34 hK34 => ?_
         refine wp_reg ?_
         refine ol_r (r_move rfl) rfl ?_
         refine ol_r (r_assign rfl) rfl ?_
         refine ol_nil (to_k0 (fun _ _ h => h) (hK34 _ _ _ _ _ ?_))
         clear hK34
         refine wp_condF rfl ?_
         refine wp_reg ?_
         refine ol_r (r_ld (id := 5) rfl rfl rfl sc22) rfl ?_
         refine ol_r (r_move rfl) rfl ?_
         refine ol_bs1 57 rfl rfl rw22 rfl rfl rfl fun a57 => ?_
         refine ol_append1 (id := 14) (id2 := 57) rfl rfl rfl rfl rfl rw22 (by omega) rfl fun a58 c58 => ?_
         refine ol_store (id := 5) rfl rfl rfl rfl sz22 rfl rfl (by first | decide | exact Nat.zero_lt_succ _ | simp) ?_
         refine ol_nil (to_k0 (fun _ _ h => h) (hK28 _ _ _ _ _ ?_))
         clear hK28
         refine wp_reg ?_
         refine ol_r (r_add rfl rfl (by omega)) rfl ?_
         refine ol_r (r_move rfl) rfl ?_
         refine ol_nil (to_k0 (fun _ _ h => h) (hK25 ((j + 1, _, _, _)) _ _ ?_ ?_ (sub_cons rfl sub_nil) (sub_cons rfl (sub_cons rfl (sub_cons rfl (sub_cons rfl (sub_cons rfl (sub_cons rfl sub_nil)))))) (by exact (subH_blk rfl (sub_cons rfl sub_nil) (subH_row rfl (by first | (dsimp only; first | (rw [stepV_snoc (by omega) (elV_big (by omega) (by omega)), ← List.append_assoc, encI_snoc]; done) | (rw [stepV_snoc (by omega) (elV_gap (by omega) (by omega)), ← List.append_assoc, encI_snoc]; done) | (rw [stepV_snoc (by omega) (elV_len (by omega) (by omega)), lenV_4 (by omega), ← List.append_assoc, encI_snoc]; done) | (rw [stepV_snoc (by omega) (elV_len (by omega) (by omega)), lenV_5 (by omega), ← List.append_assoc, encI_snoc]; done) | (rw [stepV_snoc (by omega) ((elV_val (by omega) (by omega)).trans (valV_1 (by omega))), ← List.append_assoc, encI_snoc]; done) | (rw [stepV_snoc (by omega) ((elV_val (by omega) (by omega)).trans (valV_2 (by omega))), ← List.append_assoc, encI_snoc]; done) | (rw [stepV_snoc (by omega) ((elV_val (by omega) (by omega)).trans (valV_3 (by omega))), ← List.append_assoc, encI_snoc]; done); done) | (first | (rw [stepV_snoc (by omega) (elV_big (by omega) (by omega)), ← List.append_assoc, encI_snoc]; done) | (rw [stepV_snoc (by omega) (elV_gap (by omega) (by omega)), ← List.append_assoc, encI_snoc]; done) | (rw [stepV_snoc (by omega) (elV_len (by omega) (by omega)), lenV_4 (by omega), ← List.append_assoc, encI_snoc]; done) | (rw [stepV_snoc (by omega) (elV_len (by omega) (by omega)), lenV_5 (by omega), ← List.append_assoc, encI_snoc]; done) | (rw [stepV_snoc (by omega) ((elV_val (by omega) (by omega)).trans (valV_1 (by omega))), ← List.append_assoc, encI_snoc]; done) | (rw [stepV_snoc (by omega) ((elV_val (by omega) (by omega)).trans (valV_2 (by omega))), ← List.append_assoc, encI_snoc]; done) | (rw [stepV_snoc (by omega) ((elV_val (by omega) (by omega)).trans (valV_3 (by omega))), ← List.append_assoc, encI_snoc]; done); done) | (dsimp only; done)) subH_nil))) (subH_same rfl (subH_same rfl (subH_same rfl (subH_same rfl (subH_same rfl subH_nil)))))))
         ·try dsimp only
          exact ⟨by omega, by omega⟩
         ·try dsimp only
          omega
      ·refine wp_exit' (QP.of (hn ((_, _, _)) _ _ ?_ (by exact (subH_blk rfl (sub_cons rfl sub_nil) (subH_row rfl (by first | (dsimp only; rw [strmL_succ hx, List.take_of_length_le (by rw [stepV_len]; omega)]; done) | (rw [strmL_succ hx, List.take_of_length_le (by rw [stepV_len]; omega)]; done) | (dsimp only; done)) subH_nil))) (subH_same rfl (subH_same rfl (subH_same rfl subH_nil)))) (fun _ _ h => h))
       try dsimp only
       refine ⟨by have := (List.getElem?_eq_some_iff.1 hx).1; omega, ?_⟩
       rw [strmL_succ hx, List.length_append, stepV_len]
       omega
    ·refine wp_seq' fun K35 hK35 => ?_
     refine wp_reg ?_
     refine ol_r (r_eql rfl rfl) rfl ?_
     refine ol_r (r_assign rfl) rfl ?_
     refine ol_nil (to_k0 (fun _ _ h => h) (hK35 _ _ _ _ _ ?_))
     clear hK35
     first | refine wp_condD rfl (fun hc39 => ?_) (fun hc39 => ?_) | refine wp_condN rfl (fun hc39 => ?_) (fun hc39 => ?_) | refine wp_condNB rfl (fun hc39 => ?_) (fun hc39 => ?_) | refine wp_cond' rfl (fun hc39 => ?_) (fun hc39 => ?_)
     ·refine wp_reg ?_
      refine ol_r (r_fa (o' := 6) rfl fl111_6 rfl) rfl ?_
      refine ol_r (r_ld (id := 6) rfl rfl rfl sc3) rfl ?_
      refine ol_r (r_assign rfl) rfl ?_
      refine ol_nil (to_k0 (fun _ _ h => h) (hK9 _ _ _ _ _ ?_))
      clear hK9
      refine wp_seq' fun K36 hK36 => ?_
      refine wp_reg ?_
      refine ol_r (r_move rfl) rfl ?_
      refine ol_r (r_move rfl) rfl ?_
      refine ol_nil (to_k0 (fun _ _ h => h) (hK36 _ _ _ _ _ ?_))
      clear hK36
      refine wp_block' ?_
      apply wp_loopM (σ := Nat × Option Addr × Nat × Nat) (fun s => (s.1 : Int) ≤ x.2.at_ - x.1.at_ ∧ s.2.2.1 = on + s.1) (fun s => [(52, .int .i64 s.1)]) [(4, _), (5, _), (8, _), (9, _), (10, _), (51, _)] (fun s => [(5, .blk b5 [(0, .slice s.2.1 s.2.2.1 s.2.2.2)] 22), (14, .row s.2.1 s.2.2.1 s.2.2.2 (encI.enc (strmL kind A.ss k ++ (stepV kind x.1 x.2).take s.1)) 3 1)]) [(2, _), (3, _), (6, _), (7, _), (1001, _)] (fun s => (x.2.at_ - x.1.at_).toNat - s.1) ((0, _, _, _))
      ·try dsimp only
       exact ⟨by omega, rfl⟩
      ·exact (sub_cons rfl sub_nil)
      ·exact (sub_cons rfl (sub_cons rfl (sub_cons rfl (sub_cons rfl (sub_cons rfl (sub_cons rfl sub_nil))))))
      ·exact (subH_blk rfl (sub_cons rfl sub_nil) (subH_row rfl (by first | (dsimp only; rw [List.take_zero, List.append_nil]; done) | (rw [List.take_zero, List.append_nil]; done) | (dsimp only; done)) subH_nil))
      ·exact (subH_same rfl (subH_same rfl (subH_same rfl (subH_same rfl (subH_same rfl subH_nil)))))
      ·rintro ⟨j, ja, jn, jc⟩ ⟨hj, hjn⟩
       dsimp only at hj hjn ⊢
       intro K37 hK37
       refine wp_seq' fun K38 hK38 => ?_
       refine wp_reg ?_
       refine ol_r (r_lss rfl rfl) rfl ?_
       refine ol_nil (to_k0 (fun _ _ h => h) (hK38 _ _ _ _ _ ?_))
       clear hK38
       refine wp_seq' fun K39 hK39 => ?_
       first | refine wp_condD rfl (fun hc53 => ?_) (fun hc53 => ?_) | refine wp_condN rfl (fun hc53 => ?_) (fun hc53 => ?_) | refine wp_condNB rfl (fun hc53 => ?_) (fun hc53 => ?_) | refine wp_cond' rfl (fun hc53 => ?_) (fun hc53 => ?_)
       ·refine wp_skip' (to_k0 (fun _ _ h => h) (hK39 _ _ _ _ _ ?_))
        clear hK39
        refine wp_seq' fun K40 hK40 => ?_
        refine wp_block' ?_
        refine wp_seq' fun K41 hK41 => ?_
        refine wp_reg ?_
        refine ol_r (r_move rfl) rfl ?_
        refine ol_r (r_assign rfl) rfl ?_
        refine ol_nil (to_k0 (fun _ _ h => h) (hK41 _ _ _ _ _ ?_))
        clear hK41
        refine wp_block' ?_
        refine wp_seq' fun K42 hK42 => ?_
        refine wp_reg ?_
        refine ol_r (r_move rfl) rfl ?_
        refine ol_r (r_gtr rfl rfl) rfl ?_
        refine ol_r (r_move rfl) rfl ?_
        refine ol_split (d := 62) rfl (fun hs62 => ?_) (fun hs62 => ?_)
        ·have phs62 := hs62; try simp only [decide_eq_true_eq, decide_eq_false_iff_not, Bool.not_eq_true', Bool.not_eq_false', Bool.not_true, Bool.not_false] at phs62
         refine ol_g rfl rfl hs62 ?_
         refine ol_r (r_move rfl) rfl ?_
         refine ol_r (r_pickT rfl hs62 rfl) rfl ?_
         refine ol_r (r_assign rfl) rfl ?_
         refine ol_nil (to_k0 (fun _ _ h => h) (hK42 _ _ _ _ _ ?_))
         clear hK42
         refine wp_condF rfl ?_
         refine wp_seq' fun K43 hK43 => ?_
         refine wp_reg ?_
         refine ol_r (r_move rfl) rfl ?_
         refine ol_r (r_gtr rfl rfl) rfl ?_
         refine ol_r (r_assign rfl) rfl ?_
         refine ol_nil (to_k0 (fun _ _ h => h) (hK43 _ _ _ _ _ ?_))
         clear hK43
         first | refine wp_condD rfl (fun hc68 => ?_) (fun hc68 => ?_) | refine wp_condN rfl (fun hc68 => ?_) (fun hc68 => ?_) | refine wp_condNB rfl (fun hc68 => ?_) (fun hc68 => ?_) | refine wp_cond' rfl (fun hc68 => ?_) (fun hc68 => ?_)
         ·refine wp_reg ?_
          refine ol_r (r_ld (id := 5) rfl rfl rfl sc22) rfl ?_
          refine ol_bs1 72 rfl rfl rw22 rfl rfl rfl fun a72 => ?_
          refine ol_append1 (id := 14) (id2 := 72) rfl rfl rfl rfl rfl rw22 (by omega) rfl fun a73 c73 => ?_
          refine ol_store (id := 5) rfl rfl rfl rfl sz22 rfl rfl (by first | decide | exact Nat.zero_lt_succ _ | simp) ?_
          refine ol_nil (to_k0 (fun _ _ h => h) (hK40 _ _ _ _ _ ?_))
          clear hK40
          refine wp_reg ?_
          refine ol_r (r_add rfl rfl (by omega)) rfl ?_
          refine ol_r (r_move rfl) rfl ?_
          refine ol_nil (to_k0 (fun _ _ h => h) (hK37 ((j + 1, _, _, _)) _ _ ?_ ?_ (sub_cons rfl sub_nil) (sub_cons rfl (sub_cons rfl (sub_cons rfl (sub_cons rfl (sub_cons rfl (sub_cons rfl sub_nil)))))) (by exact (subH_blk rfl (sub_cons rfl sub_nil) (subH_row rfl (by first | (dsimp only; first | (rw [stepV_snoc (by omega) (elV_big (by omega) (by omega)), ← List.append_assoc, encI_snoc]; done) | (rw [stepV_snoc (by omega) (elV_gap (by omega) (by omega)), ← List.append_assoc, encI_snoc]; done) | (rw [stepV_snoc (by omega) (elV_len (by omega) (by omega)), lenV_4 (by omega), ← List.append_assoc, encI_snoc]; done) | (rw [stepV_snoc (by omega) (elV_len (by omega) (by omega)), lenV_5 (by omega), ← List.append_assoc, encI_snoc]; done) | (rw [stepV_snoc (by omega) ((elV_val (by omega) (by omega)).trans (valV_1 (by omega))), ← List.append_assoc, encI_snoc]; done) | (rw [stepV_snoc (by omega) ((elV_val (by omega) (by omega)).trans (valV_2 (by omega))), ← List.append_assoc, encI_snoc]; done) | (rw [stepV_snoc (by omega) ((elV_val (by omega) (by omega)).trans (valV_3 (by omega))), ← List.append_assoc, encI_snoc]; done); done) | (first | (rw [stepV_snoc (by omega) (elV_big (by omega) (by omega)), ← List.append_assoc, encI_snoc]; done) | (rw [stepV_snoc (by omega) (elV_gap (by omega) (by omega)), ← List.append_assoc, encI_snoc]; done) | (rw [stepV_snoc (by omega) (elV_len (by omega) (by omega)), lenV_4 (by omega), ← List.append_assoc, encI_snoc]; done) | (rw [stepV_snoc (by omega) (elV_len (by omega) (by omega)), lenV_5 (by omega), ← List.append_assoc, encI_snoc]; done) | (rw [stepV_snoc (by omega) ((elV_val (by omega) (by omega)).trans (valV_1 (by omega))), ← List.append_assoc, encI_snoc]; done) | (rw [stepV_snoc (by omega) ((elV_val (by omega) (by omega)).trans (valV_2 (by omega))), ← List.append_assoc, encI_snoc]; done) | (rw [stepV_snoc (by omega) ((elV_val (by omega) (by omega)).trans (valV_3 (by omega))), ← List.append_assoc, encI_snoc]; done); done) | (dsimp only; done)) subH_nil))) (subH_same rfl (subH_same rfl (subH_same rfl (subH_same rfl (subH_same rfl subH_nil)))))))
          ·try dsimp only
           exact ⟨by omega, by omega⟩
          ·try dsimp only
           omega
         ·refine wp_seq' fun K44 hK44 => ?_
          refine wp_reg ?_
          refine ol_r (r_move rfl) rfl ?_
          refine ol_r (r_assign rfl) rfl ?_
          refine ol_nil (to_k0 (fun _ _ h => h) (hK44 _ _ _ _ _ ?_))
          clear hK44
          refine wp_condF rfl ?_
          refine wp_reg ?_
          refine ol_r (r_ld (id := 5) rfl rfl rfl sc22) rfl ?_
          refine ol_r (r_move rfl) rfl ?_
          refine ol_bs1 57 rfl rfl rw22 rfl rfl rfl fun a57 => ?_
          refine ol_append1 (id := 14) (id2 := 57) rfl rfl rfl rfl rfl rw22 (by omega) rfl fun a58 c58 => ?_
          refine ol_store (id := 5) rfl rfl rfl rfl sz22 rfl rfl (by first | decide | exact Nat.zero_lt_succ _ | simp) ?_
          refine ol_nil (to_k0 (fun _ _ h => h) (hK40 _ _ _ _ _ ?_))
          clear hK40
          refine wp_reg ?_
          refine ol_r (r_add rfl rfl (by omega)) rfl ?_
          refine ol_r (r_move rfl) rfl ?_
          refine ol_nil (to_k0 (fun _ _ h => h) (hK37 ((j + 1, _, _, _)) _ _ ?_ ?_ (sub_cons rfl sub_nil) (sub_cons rfl (sub_cons rfl (sub_cons rfl (sub_cons rfl (sub_cons rfl (sub_cons rfl sub_nil)))))) (by exact (subH_blk rfl (sub_cons rfl sub_nil) (subH_row rfl (by first | (dsimp only; first | (rw [stepV_snoc (by omega) (elV_big (by omega) (by omega)), ← List.append_assoc, encI_snoc]; done) | (rw [stepV_snoc (by omega) (elV_gap (by omega) (by omega)), ← List.append_assoc, encI_snoc]; done) | (rw [stepV_snoc (by omega) (elV_len (by omega) (by omega)), lenV_4 (by omega), ← List.append_assoc, encI_snoc]; done) | (rw [stepV_snoc (by omega) (elV_len (by omega) (by omega)), lenV_5 (by omega), ← List.append_assoc, encI_snoc]; done) | (rw [stepV_snoc (by omega) ((elV_val (by omega) (by omega)).trans (valV_1 (by omega))), ← List.append_assoc, encI_snoc]; done) | (rw [stepV_snoc (by omega) ((elV_val (by omega) (by omega)).trans (valV_2 (by omega))), ← List.append_assoc, encI_snoc]; done) | (rw [stepV_snoc (by omega) ((elV_val (by omega) (by omega)).trans (valV_3 (by omega))), ← List.append_assoc, encI_snoc]; done); done) | (first | (rw [stepV_snoc (by omega) (elV_big (by omega) (by omega)), ← List.append_assoc, encI_snoc]; done) | (rw [stepV_snoc (by omega) (elV_gap (by omega) (by omega)), ← List.append_assoc, encI_snoc]; done) | (rw [stepV_snoc (by omega) (elV_len (by omega) (by omega)), lenV_4 (by omega), ← List.append_assoc, encI_snoc]; done) | (rw [stepV_snoc (by omega) (elV_len (by omega) (by omega)), lenV_5 (by omega), ← List.append_assoc, encI_snoc]; done) | (rw [stepV_snoc (by omega) ((elV_val (by omega) (by omega)).trans (valV_1 (by omega))), ← List.append_assoc, encI_snoc]; done) | (rw [stepV_snoc (by omega) ((elV_val (by omega) (by omega)).trans (valV_2 (by omega))), ← List.append_assoc, encI_snoc]; done) | (rw [stepV_snoc (by omega) ((elV_val (by omega) (by omega)).trans (valV_3 (by omega))), ← List.append_assoc, encI_snoc]; done); done) | (dsimp only; done)) subH_nil))) (subH_same rfl (subH_same rfl (subH_same rfl (subH_same rfl (subH_same rfl subH_nil)))))))
          ·try dsimp only
           exact ⟨by omega, by omega⟩
          ·try dsimp only
           omega
        ·have phs62 := hs62; try simp only [decide_eq_true_eq, decide_eq_false_iff_not, Bool.not_eq_true', Bool.not_eq_false', Bool.not_true, Bool.not_false] at phs62
         refine ol_s rfl rfl hs62 rfl ?_
         refine ol_r (r_pickF rfl hs62 rfl) rfl ?_
         refine ol_r (r_assign rfl) rfl ?_
         refine ol_nil (to_k0 (fun _ _ h => h) (hK42 _ _ _ _ _ ?_))
         clear hK42
         refine wp_condF rfl ?_
         refine wp_seq' fun K45 hK45 => ?_
         refine wp_reg ?_
         refine ol_r (r_move rfl) rfl ?_
         refine ol_r (r_gtr rfl rfl) rfl ?_
         refine ol_r (r_assign rfl) rfl ?_
         refine ol_nil (to_k0 (fun _ _ h => h) (hK45 _ _ _ _ _ ?_))
         clear hK45
         first | refine wp_condD rfl (fun hc68 => ?_) (fun hc68 => ?_) | refine wp_condN rfl (fun hc68 => ?_) (fun hc68 => ?_) | refine wp_condNB rfl (fun hc68 => ?_) (fun hc68 => ?_) | refine wp_cond' rfl (fun hc68 => ?_) (fun hc68 => ?_)
         ·refine wp_reg ?_
          refine ol_r (r_ld (id := 5) rfl rfl rfl sc22) rfl ?_
          refine ol_bs1 72 rfl rfl rw22 rfl rfl rfl fun a72 => ?_
          refine ol_append1 (id := 14) (id2 := 72) rfl rfl rfl rfl rfl rw22 (by omega) rfl fun a73 c73 => ?_
          refine ol_store (id := 5) rfl rfl rfl rfl sz22 rfl rfl (by first | decide | exact Nat.zero_lt_succ _ | simp) ?_
          refine ol_nil (to_k0 (fun _ _ h => h) (hK40 _ _ _ _ _ ?_))
          clear hK40
          refine wp_reg ?_
          refine ol_r (r_add rfl rfl (by omega)) rfl ?_
          refine ol_r (r_move rfl) rfl ?_
          refine ol_nil (to_k0 (fun _ _ h => h) (hK37 ((j + 1, _, _, _)) _ _ ?_ ?_ (sub_cons rfl sub_nil) (sub_cons rfl (sub_cons rfl (sub_cons rfl (sub_cons rfl (sub_cons rfl (sub_cons rfl sub_nil)))))) (by exact (subH_blk rfl (sub_cons rfl sub_nil) (subH_row rfl (by first | (dsimp only; first | (rw [stepV_snoc (by omega) (elV_big (by omega) (by omega)), ← List.append_assoc, encI_snoc]; done) | (rw [stepV_snoc (by omega) (elV_gap (by omega) (by omega)), ← List.append_assoc, encI_snoc]; done) | (rw [stepV_snoc (by omega) (elV_len (by omega) (by omega)), lenV_4 (by omega), ← List.append_assoc, encI_snoc]; done) | (rw [stepV_snoc (by omega) (elV_len (by omega) (by omega)), lenV_5 (by omega), ← List.append_assoc, encI_snoc]; done) | (rw [stepV_snoc (by omega) ((elV_val (by omega) (by omega)).trans (valV_1 (by omega))), ← List.append_assoc, encI_snoc]; done) | (rw [stepV_snoc (by omega) ((elV_val (by omega) (by omega)).trans (valV_2 (by omega))), ← List.append_assoc, encI_snoc]; done) | (rw [stepV_snoc (by omega) ((elV_val (by omega) (by omega)).trans (valV_3 (by omega))), ← List.append_assoc, encI_snoc]; done); done) | (first | (rw [stepV_snoc (by omega) (elV_big (by omega) (by omega)), ← List.append_assoc, encI_snoc]; done) | (rw [stepV_snoc (by omega) (elV_gap (by omega) (by omega)), ← List.append_assoc, encI_snoc]; done) | (rw [stepV_snoc (by omega) (elV_len (by omega) (by omega)), lenV_4 (by omega), ← List.append_assoc, encI_snoc]; done) | (rw [stepV_snoc (by omega) (elV_len (by omega) (by omega)), lenV_5 (by omega), ← List.append_assoc, encI_snoc]; done) | (rw [stepV_snoc (by omega) ((elV_val (by omega) (by omega)).trans (valV_1 (by omega))), ← List.append_assoc, encI_snoc]; done) | (rw [stepV_snoc (by omega) ((elV_val (by omega) (by omega)).trans (valV_2 (by omega))), ← List.append_assoc, encI_snoc]; done) | (rw [stepV_snoc (by omega) ((elV_val (by omega) (by omega)).trans (valV_3 (by omega))), ← List.append_assoc, encI_snoc]; done); done) | (dsimp only; done)) subH_nil))) (subH_same rfl (subH_same rfl (subH_same rfl (subH_same rfl (subH_same rfl subH_nil)))))))
          ·try dsimp only
           exact ⟨by omega, by omega⟩
          ·try dsimp only
           omega
         ·refine wp_seq' fun K46 hK46 => ?_
          refine wp_reg ?_
          refine ol_r (r_move rfl) rfl ?_
          refine ol_r (r_assign rfl) rfl ?_
          refine ol_nil (to_k0 (fun _ _ h => h) (hK46 _ _ _ _ _ ?_))
          clear hK46
          refine wp_condF rfl ?_
          refine wp_reg ?_
          refine ol_r (r_ld (id := 5) rfl rfl rfl sc22) rfl ?_
          refine ol_r (r_move rfl) rfl ?_
          refine ol_bs1 57 rfl rfl rw22 rfl rfl rfl fun a57 => ?_
          refine ol_append1 (id := 14) (id2 := 57) rfl rfl rfl rfl rfl rw22 (by omega) rfl fun a58 c58 => ?_
          refine ol_store (id := 5) rfl rfl rfl rfl sz22 rfl rfl (by first | decide | exact Nat.zero_lt_succ _ | simp) ?_
          refine ol_nil (to_k0 (fun _ _ h => h) (hK40 _ _ _ _ _ ?_))
          clear hK40
          refine wp_reg ?_
          refine ol_r (r_add rfl rfl (by omega)) rfl ?_
          refine ol_r (r_move rfl) rfl ?_
          refine ol_nil (to_k0 (fun _ _ h => h) (hK37 ((j + 1, _, _, _)) _ _ ?_ ?_ (sub_cons rfl sub_nil) (sub_cons rfl (sub_cons rfl (sub_cons rfl (sub_cons rfl (sub_cons rfl (sub_cons rfl sub_nil)))))) (by exact (subH_blk rfl (sub_cons rfl sub_nil) (subH_row rfl (by first | (dsimp only; first | (rw [stepV_snoc (by omega) (elV_big (by omega) (by omega)), ← List.append_assoc, encI_snoc]; done) | (rw [stepV_snoc (by omega) (elV_gap (by omega) (by omega)), ← List.append_assoc, encI_snoc]; done) | (rw [stepV_snoc (by omega) (elV_len (by omega) (by omega)), lenV_4 (by omega), ← List.append_assoc, encI_snoc]; done) | (rw [stepV_snoc (by omega) (elV_len (by omega) (by omega)), lenV_5 (by omega), ← List.append_assoc, encI_snoc]; done) | (rw [stepV_snoc (by omega) ((elV_val (by omega) (by omega)).trans (valV_1 (by omega))), ← List.append_assoc, encI_snoc]; done) | (rw [stepV_snoc (by omega) ((elV_val (by omega) (by omega)).trans (valV_2 (by omega))), ← List.append_assoc, encI_snoc]; done) | (rw [stepV_snoc (by omega) ((elV_val (by omega) (by omega)).trans (valV_3 (by omega))), ← List.append_assoc, encI_snoc]; done); done) | (first | (rw [stepV_snoc (by omega) (elV_big (by omega) (by omega)), ← List.append_assoc, encI_snoc]; done) | (rw [stepV_snoc (by omega) (elV_gap (by omega) (by omega)), ← List.append_assoc, encI_snoc]; done) | (rw [stepV_snoc (by omega) (elV_len (by omega) (by omega)), lenV_4 (by omega), ← List.append_assoc, encI_snoc]; done) | (rw [stepV_snoc (by omega) (elV_len (by omega) (by omega)), lenV_5 (by omega), ← List.append_assoc, encI_snoc]; done) | (rw [stepV_snoc (by omega) ((elV_val (by omega) (by omega)).trans (valV_1 (by omega))), ← List.append_assoc, encI_snoc]; done) | (rw [stepV_snoc (by omega) ((elV_val (by omega) (by omega)).trans (valV_2 (by omega))), ← List.append_assoc, encI_snoc]; done) | (rw [stepV_snoc (by omega) ((elV_val (by omega) (by omega)).trans (valV_3 (by omega))), ← List.append_assoc, encI_snoc]; done); done) | (dsimp only; done)) subH_nil))) (subH_same rfl (subH_same rfl (subH_same rfl (subH_same rfl (subH_same rfl subH_nil)))))))
          ·try dsimp only
           exact ⟨by omega, by omega⟩
          ·try dsimp only
           omega
       ·refine wp_exit' (QP.of (hn ((_, _, _)) _ _ ?_ (by exact (subH_blk rfl (sub_cons rfl sub_nil) (subH_row rfl (by first | (dsimp only; rw [strmL_succ hx, List.take_of_length_le (by rw [stepV_len]; omega)]; done) | (rw [strmL_succ hx, List.take_of_length_le (by rw [stepV_len]; omega)]; done) | (dsimp only; done)) subH_nil))) (subH_same rfl (subH_same rfl (subH_same rfl subH_nil)))) (fun _ _ h => h))
        try dsimp only
        refine ⟨by have := (List.getElem?_eq_some_iff.1 hx).1; omega, ?_⟩
        rw [strmL_succ hx, List.length_append, stepV_len]
        omega
     ·refine wp_seq' fun K47 hK47 => ?_
      refine wp_reg ?_
      refine ol_r (r_eql rfl rfl) rfl ?_
      refine ol_r (r_assign rfl) rfl ?_
      refine ol_nil (to_k0 (fun _ _ h => h) (hK47 _ _ _ _ _ ?_))
      clear hK47
      first | refine wp_condD rfl (fun hc43 => ?_) (fun hc43 => ?_) | refine wp_condN rfl (fun hc43 => ?_) (fun hc43 => ?_) | refine wp_condNB rfl (fun hc43 => ?_) (fun hc43 => ?_) | refine wp_cond' rfl (fun hc43 => ?_) (fun hc43 => ?_)
      ·refine wp_seq' fun K48 hK48 => ?_
       refine wp_reg ?_
       refine ol_r (r_lda (id := 6) (n := 7) rfl rfl rfl ag111) rfl ?_
       refine ol_r (r_lda (id := 7) (n := 7) rfl rfl rfl ag111) rfl ?_
       refine ol_call rfl rfl cb121 rfl (fun w1 hb1 hs1 hB1 => Calls.mono (track_Step2 x.1 x.2 _ hp hq) ?_)
       rintro e w2 ⟨rfl, hb2⟩
       refine After.below rfl hb1 hs1 hB1 hb2 ?_
       clear hb2 hB1 hs1 hb1 w2 w1
       refine ol_r (r_move rfl) rfl ?_
       refine ol_r (r_extract rfl rfl) rfl ?_
       refine ol_r (r_extract rfl rfl) rfl ?_
       refine ol_r (r_assign rfl) rfl ?_
       refine ol_nil (to_k0 (fun _ _ h => h) (hK48 _ _ _ _ _ ?_))
       clear hK48
       refine wp_reg ?_
       refine ol_r (r_assign rfl) rfl ?_
       refine ol_nil (to_k0 (fun _ _ h => h) (hK9 _ _ _ _ _ ?_))
       clear hK9
       refine wp_seq' fun K49 hK49 => ?_
       refine wp_reg ?_
       refine ol_r (r_move rfl) rfl ?_
       refine ol_r (r_move rfl) rfl ?_
       refine ol_nil (to_k0 (fun _ _ h => h) (hK49 _ _ _ _ _ ?_))
       clear hK49
       refine wp_block' ?_
       apply wp_loopM (σ := Nat × Option Addr × Nat × Nat) (fun s => (s.1 : Int) ≤ x.2.at_ - x.1.at_ ∧ s.2.2.1 = on + s.1) (fun s => [(52, .int .i64 s.1)]) [(4, _), (5, _), (8, _), (9, _), (10, _), (51, _)] (fun s => [(5, .blk b5 [(0, .slice s.2.1 s.2.2.1 s.2.2.2)] 22), (14, .row s.2.1 s.2.2.1 s.2.2.2 (encI.enc (strmL kind A.ss k ++ (stepV kind x.1 x.2).take s.1)) 3 1)]) [(2, _), (3, _), (6, _), (7, _), (1001, _)] (fun s => (x.2.at_ - x.1.at_).toNat - s.1) ((0, _, _, _))
       ·try dsimp only
        exact ⟨by omega, rfl⟩
       ·exact (sub_cons rfl sub_nil)
       ·exact (sub_cons rfl (sub_cons rfl (sub_cons rfl (sub_cons rfl (sub_cons rfl (sub_cons rfl sub_nil))))))
       ·exact (subH_blk rfl (sub_cons rfl sub_nil) (subH_row rfl (by first | (dsimp only; rw [List.take_zero, List.append_nil]; done) | (rw [List.take_zero, List.append_nil]; done) | (dsimp only; done)) subH_nil))
       ·exact (subH_same rfl (subH_same rfl (subH_same rfl (subH_same rfl (subH_same rfl subH_nil)))))
       ·rintro ⟨j, ja, jn, jc⟩ ⟨hj, hjn⟩
        dsimp only at hj hjn ⊢
        intro K50 hK50
        refine wp_seq' fun K51 hK51 => ?_
        refine wp_reg ?_
        refine ol_r (r_lss rfl rfl) rfl ?_
        refine ol_nil (to_k0 (fun _ _ h => h) (hK51 _ _ _ _ _ ?_))
        clear hK51
        refine wp_seq' fun K52 hK52 => ?_
        first | refine wp_condD rfl (fun hc53 => ?_) (fun hc53 => ?_) | refine wp_condN rfl (fun hc53 => ?_) (fun hc53 => ?_) | refine wp_condNB rfl (fun hc53 => ?_) (fun hc53 => ?_) | refine wp_cond' rfl (fun hc53 => ?_) (fun hc53 => ?_)
        ·refine wp_skip' (to_k0 (fun _ _ h => h) (hK52 _ _ _ _ _ ?_))
         clear hK52
         refine wp_seq' fun K53 hK53 => ?_
         refine wp_block' ?_
         refine wp_seq' fun K54 hK54 => ?_
         refine wp_reg ?_
         refine ol_r (r_move rfl) rfl ?_
         refine ol_r (r_assign rfl) rfl ?_
         refine ol_nil (to_k0 (fun _ _ h => h) (hK54 _ _ _ _ _ ?_))
         clear hK54
         refine wp_block' ?_
         refine wp_seq' fun K55 hK55 => ?_
         refine wp_reg ?_
         refine ol_r (r_move rfl) rfl ?_
         refine ol_r (r_gtr rfl rfl) rfl ?_
         refine ol_r (r_move rfl) rfl ?_
         refine ol_split (d := 62) rfl (fun hs62 => ?_) (fun hs62 => ?_)
         ·have phs62 := hs62; try simp only [decide_eq_true_eq, decide_eq_false_iff_not, Bool.not_eq_true', Bool.not_eq_false', Bool.not_true, Bool.not_false] at phs62
          refine ol_g rfl rfl hs62 ?_
          refine ol_r (r_move rfl) rfl ?_
          refine ol_r (r_pickT rfl hs62 rfl) rfl ?_
          refine ol_r (r_assign rfl) rfl ?_
          refine ol_nil (to_k0 (fun _ _ h => h) (hK55 _ _ _ _ _ ?_))
          clear hK55
          refine wp_condT rfl ?_
          refine wp_reg ?_
          refine ol_r (r_ld (id := 5) rfl rfl rfl sc22) rfl ?_
          refine ol_bs1 66 rfl rfl rw22 rfl rfl rfl fun a66 => ?_
          refine ol_append1 (id := 14) (id2 := 66) rfl rfl rfl rfl rfl rw22 (by omega) rfl fun a67 c67 => ?_
          refine ol_store (id := 5) rfl rfl rfl rfl sz22 rfl rfl (by first | decide | exact Nat.zero_lt_succ _ | simp) ?_
          refine ol_nil (to_k0 (fun _ _ h => h) (hK53 _ _ _ _ _ ?_))
          clear hK53
          refine wp_reg ?_
          refine ol_r (r_add rfl rfl (by omega)) rfl ?_
          refine ol_r (r_move rfl) rfl ?_
          refine ol_nil (to_k0 (fun _ _ h => h) (hK50 ((j + 1, _, _, _)) _ _ ?_ ?_ (sub_cons rfl sub_nil) (sub_cons rfl (sub_cons rfl (sub_cons rfl (sub_cons rfl (sub_cons rfl (sub_cons rfl sub_nil)))))) (by exact (subH_blk rfl (sub_cons rfl sub_nil) (subH_row rfl (by first | (dsimp only; first | (rw [stepV_snoc (by omega) (elV_big (by omega) (by omega)), ← List.append_assoc, encI_snoc]; done) | (rw [stepV_snoc (by omega) (elV_gap (by omega) (by omega)), ← List.append_assoc, encI_snoc]; done) | (rw [stepV_snoc (by omega) (elV_len (by omega) (by omega)), lenV_4 (by omega), ← List.append_assoc, encI_snoc]; done) | (rw [stepV_snoc (by omega) (elV_len (by omega) (by omega)), lenV_5 (by omega), ← List.append_assoc, encI_snoc]; done) | (rw [stepV_snoc (by omega) ((elV_val (by omega) (by omega)).trans (valV_1 (by omega))), ← List.append_assoc, encI_snoc]; done) | (rw [stepV_snoc (by omega) ((elV_val (by omega) (by omega)).trans (valV_2 (by omega))), ← List.append_assoc, encI_snoc]; done) | (rw [stepV_snoc (by omega) ((elV_val (by omega) (by omega)).trans (valV_3 (by omega))), ← List.append_assoc, encI_snoc]; done); done) | (first | (rw [stepV_snoc (by omega) (elV_big (by omega) (by omega)), ← List.append_assoc, encI_snoc]; done) | (rw [stepV_snoc (by omega) (elV_gap (by omega) (by omega)), ← List.append_assoc, encI_snoc]; done) | (rw [stepV_snoc (by omega) (elV_len (by omega) (by omega)), lenV_4 (by omega), ← List.append_assoc, encI_snoc]; done) | (rw [stepV_snoc (by omega) (elV_len (by omega) (by omega)), lenV_5 (by omega), ← List.append_assoc, encI_snoc]; done) | (rw [stepV_snoc (by omega) ((elV_val (by omega) (by omega)).trans (valV_1 (by omega))), ← List.append_assoc, encI_snoc]; done) | (rw [stepV_snoc (by omega) ((elV_val (by omega) (by omega)).trans (valV_2 (by omega))), ← List.append_assoc, encI_snoc]; done) | (rw [stepV_snoc (by omega) ((elV_val (by omega) (by omega)).trans (valV_3 (by omega))), ← List.append_assoc, encI_snoc]; done); done) | (dsimp only; done)) subH_nil))) (subH_same rfl (subH_same rfl (subH_same rfl (subH_same rfl (subH_same rfl subH_nil)))))))
          ·try dsimp only
           exact ⟨by omega, by omega⟩
          ·try dsimp only
           omega
         ·have phs62 := hs62; try simp only [decide_eq_true_eq, decide_eq_false_iff_not, Bool.not_eq_true', Bool.not_eq_false', Bool.not_true, Bool.not_false] at phs62
          refine ol_s rfl rfl hs62 rfl ?_
          refine ol_r (r_pickF rfl hs62 rfl) rfl ?_
          refine ol_r (r_assign rfl) rfl ?_
          refine ol_nil (to_k0 (fun _ _ h => h) (hK55 _ _ _ _ _ ?_))
          clear hK55
          refine wp_condF rfl ?_
          refine wp_seq' fun K56 hK56 => ?_
          refine wp_reg ?_
          refine ol_r (r_move rfl) rfl ?_
          refine ol_r (r_gtr rfl rfl) rfl ?_
          refine ol_r (r_assign rfl) rfl ?_
          refine ol_nil (to_k0 (fun _ _ h => h) (hK56 _ _ _ _ _ ?_))
          clear hK56
          first | refine wp_condD rfl (fun hc68 => ?_) (fun hc68 => ?_) | refine wp_condN rfl (fun hc68 => ?_) (fun hc68 => ?_) | refine wp_condNB rfl (fun hc68 => ?_) (fun hc68 => ?_) | refine wp_cond' rfl (fun hc68 => ?_) (fun hc68 => ?_)
          ·refine wp_reg ?_
           refine ol_r (r_ld (id := 5) rfl rfl rfl sc22) rfl ?_
           refine ol_bs1 72 rfl rfl rw22 rfl rfl rfl fun a72 => ?_
           refine ol_append1 (id := 14) (id2 := 72) rfl rfl rfl rfl rfl rw22 (by omega) rfl fun a73 c73 => ?_
           refine ol_store (id := 5) rfl rfl rfl rfl sz22 rfl rfl (by first | decide | exact Nat.zero_lt_succ _ | simp) ?_
           refine ol_nil (to_k0 (fun _ _ h => h) (hK53 _ _ _ _ _ ?_))
           clear hK53
           refine wp_reg ?_
           refine ol_r (r_add rfl rfl (by omega)) rfl ?_
           refine ol_r (r_move rfl) rfl ?_
           refine ol_nil (to_k0 (fun _ _ h => h) (hK50 ((j + 1, _, _, _)) _ _ ?_ ?_ (sub_cons rfl sub_nil) (sub_cons rfl (sub_cons rfl (sub_cons rfl (sub_cons rfl (sub_cons rfl (sub_cons rfl sub_nil)))))) (by exact (subH_blk rfl (sub_cons rfl sub_nil) (subH_row rfl (by first | (dsimp only; first | (rw [stepV_snoc (by omega) (elV_big (by omega) (by omega)), ← List.append_assoc, encI_snoc]; done) | (rw [stepV_snoc (by omega) (elV_gap (by omega) (by omega)), ← List.append_assoc, encI_snoc]; done) | (rw [stepV_snoc (by omega) (elV_len (by omega) (by omega)), lenV_4 (by omega), ← List.append_assoc, encI_snoc]; done) | (rw [stepV_snoc (by omega) (elV_len (by omega) (by omega)), lenV_5 (by omega), ← List.append_assoc, encI_snoc]; done) | (rw [stepV_snoc (by omega) ((elV_val (by omega) (by omega)).trans (valV_1 (by omega))), ← List.append_assoc, encI_snoc]; done) | (rw [stepV_snoc (by omega) ((elV_val (by omega) (by omega)).trans (valV_2 (by omega))), ← List.append_assoc, encI_snoc]; done) | (rw [stepV_snoc (by omega) ((elV_val (by omega) (by omega)).trans (valV_3 (by omega))), ← List.append_assoc, encI_snoc]; done); done) | (first | (rw [stepV_snoc (by omega) (elV_big (by omega) (by omega)), ← List.append_assoc, encI_snoc]; done) | (rw [stepV_snoc (by omega) (elV_gap (by omega) (by omega)), ← List.append_assoc, encI_snoc]; done) | (rw [stepV_snoc (by omega) (elV_len (by omega) (by omega)), lenV_4 (by omega), ← List.append_assoc, encI_snoc]; done) | (rw [stepV_snoc (by omega) (elV_len (by omega) (by omega)), lenV_5 (by omega), ← List.append_assoc, encI_snoc]; done) | (rw [stepV_snoc (by omega) ((elV_val (by omega) (by omega)).trans (valV_1 (by omega))), ← List.append_assoc, encI_snoc]; done) | (rw [stepV_snoc (by omega) ((elV_val (by omega) (by omega)).trans (valV_2 (by omega))), ← List.append_assoc, encI_snoc]; done) | (rw [stepV_snoc (by omega) ((elV_val (by omega) (by omega)).trans (valV_3 (by omega))), ← List.append_assoc, encI_snoc]; done); done) | (dsimp only; done)) subH_nil))) (subH_same rfl (subH_same rfl (subH_same rfl (subH_same rfl (subH_same rfl subH_nil)))))))
           ·try dsimp only
            exact ⟨by omega, by omega⟩
           ·try dsimp only
            omega
          ·refine wp_seq' fun K57 hK57 => ?_
           refine wp_reg ?_
           refine ol_r (r_move rfl) rfl ?_
           refine ol_r (r_assign rfl) rfl ?_
           refine ol_nil (to_k0 (fun _ _ h => h) (hK57 _ _ _ _ _ ?_))
           clear hK57
           refine wp_condT rfl ?_
           refine wp_rega [(999, [(2, _), (3, _), (6, _), (7, _), (1001, _)]), (15, [(5, _)]), (14, [(14, _)])] (by kernel_rfl) ⟨.inr (subH_same rfl (subH_same rfl (subH_same rfl (subH_same rfl (subH_same rfl subH_nil))))), ⟨.inr (subH_same rfl subH_nil), ⟨.inr (subH_same rfl subH_nil), trivial⟩⟩⟩ ?_
           refine aq_r 0 15 rfl (by kernel_rfl) (by kernel_rfl) (by kernel_rfl) (.tail _ (.head _)) (by kernel_rfl) (by kernel_rfl) rfl (r_ld (id := 5) rfl rfl rfl sc22) ?_
           refine aq_r 1 999 rfl (by kernel_rfl) (by kernel_rfl) (by kernel_rfl) (.head _) (by kernel_rfl) (by kernel_rfl) rfl (r_move rfl) ?_
           refine aq_r 2 999 rfl (by kernel_rfl) (by kernel_rfl) (by kernel_rfl) (.head _) (by kernel_rfl) (by kernel_rfl) rfl (r_move rfl) ?_
           have bl := lenD_bd hp hq
           have hn60 : x.2.at_ - x.1.at_ ≤ 60 := by omega
           have m1 := mul_bd (a := lenD x.1 x.2) (b := (j : Int) + 1) (A := 300000000) (B := 60) (by omega) (by omega) (by omega) (by omega)
           have m2 := mul_bd (a := lenD x.1 x.2) (b := (j : Int)) (A := 300000000) (B := 60) (by omega) (by omega) (by omega) (by omega)
           have m3 := mul_bd (a := max (x.2.z - x.1.z) 0) (b := (j : Int) + 1) (A := 300000000) (B := 60) (by omega) (by omega) (by omega) (by omega)
           have m4 := mul_bd (a := max (x.2.z - x.1.z) 0) (b := (j : Int)) (A := 300000000) (B := 60) (by omega) (by omega) (by omega) (by omega)
           have d1 := spread_bd (v := lenD x.1 x.2) (n := x.2.at_ - x.1.at_) (j := j) (by omega) (by omega)
           have d2 := spread_bd (v := max (x.2.z - x.1.z) 0) (n := x.2.at_ - x.1.at_) (j := j) (by omega) (by omega)
           refine aq_r 3 999 rfl (by kernel_rfl) (by kernel_rfl) (by kernel_rfl) (.head _) (by kernel_rfl) (by kernel_rfl) rfl (r_add rfl rfl (by omega)) ?_
           refine aq_r 4 999 rfl (by kernel_rfl) (by kernel_rfl) (by kernel_rfl) (.head _) (by kernel_rfl) (by kernel_rfl) rfl (r_mul rfl rfl (by omega)) ?_
           refine aq_r 5 999 rfl (by kernel_rfl) (by kernel_rfl) (by kernel_rfl) (.head _) (by kernel_rfl) (by kernel_rfl) rfl (r_move rfl) ?_
           first | refine aq_r 6 999 rfl (by kernel_rfl) (by kernel_rfl) (by kernel_rfl) (.head _) (by kernel_rfl) (by kernel_rfl) rfl (r_quo rfl rfl (by omega)) ?_ | refine aq_r 6 999 rfl (by kernel_rfl) (by kernel_rfl) (by kernel_rfl) (.head _) (by kernel_rfl) (by kernel_rfl) rfl (r_tquo rfl rfl (by omega)) ?_
           refine aq_r 7 999 rfl (by kernel_rfl) (by kernel_rfl) (by kernel_rfl) (.head _) (by kernel_rfl) (by kernel_rfl) rfl (r_move rfl) ?_
           refine aq_r 8 999 rfl (by kernel_rfl) (by kernel_rfl) (by kernel_rfl) (.head _) (by kernel_rfl) (by kernel_rfl) rfl (r_move rfl) ?_
           refine aq_r 9 999 rfl (by kernel_rfl) (by kernel_rfl) (by kernel_rfl) (.head _) (by kernel_rfl) (by kernel_rfl) rfl (r_mul rfl rfl (by omega)) ?_
           refine aq_r 10 999 rfl (by kernel_rfl) (by kernel_rfl) (by kernel_rfl) (.head _) (by kernel_rfl) (by kernel_rfl) rfl (r_move rfl) ?_
           first | refine aq_r 11 999 rfl (by kernel_rfl) (by kernel_rfl) (by kernel_rfl) (.head _) (by kernel_rfl) (by kernel_rfl) rfl (r_quo rfl rfl (by omega)) ?_ | refine aq_r 11 999 rfl (by kernel_rfl) (by kernel_rfl) (by kernel_rfl) (.head _) (by kernel_rfl) (by kernel_rfl) rfl (r_tquo rfl rfl (by omega)) ?_
           refine aq_r 12 999 rfl (by kernel_rfl) (by kernel_rfl) (by kernel_rfl) (.head _) (by kernel_rfl) (by kernel_rfl) rfl (r_sub rfl rfl (by omega)) ?_
           refine aq_one (i := 13) (by kernel_rfl) rfl fun K58 hK58 => ?_
           refine ol_bs1 89 rfl rfl rw22 rfl rfl rfl fun a89 => ?_
           refine ol_nil (to_k0 (fun _ _ h => h) (hK58 _ _ ⟨.inr (by repeat' first | exact subH_nil | refine subH_same rfl ?_ | (refine subH_blk rfl (by repeat' first | exact sub_nil | refine sub_cons rfl ?_) ?_)), ⟨.inr (by repeat' first | exact subH_nil | refine subH_same rfl ?_ | (refine subH_blk rfl (by repeat' first | exact sub_nil | refine sub_cons rfl ?_) ?_)), ⟨.inr (by repeat' first | exact subH_nil | refine subH_same rfl ?_ | (refine subH_blk rfl (by repeat' first | exact sub_nil | refine sub_cons rfl ?_) ?_)), trivial⟩⟩⟩ ?_))
           clear hK58
           refine aq_one (i := 14) (by kernel_rfl) rfl fun K59 hK59 => ?_
           refine ol_append1 (id := 14) (id2 := 89) rfl rfl rfl rfl rfl rw22 (by omega) rfl fun a90 c90 => ?_
           refine ol_nil (to_k0 (fun _ _ h => h) (hK59 _ _ ⟨.inr (by repeat' first | exact subH_nil | refine subH_same rfl ?_ | (refine subH_blk rfl (by repeat' first | exact sub_nil | refine sub_cons rfl ?_) ?_)), ⟨.inr (by repeat' first | exact subH_nil | refine subH_same rfl ?_ | (refine subH_blk rfl (by repeat' first | exact sub_nil | refine sub_cons rfl ?_) ?_)), ⟨.inl (by kernel_rfl), trivial⟩⟩⟩ ?_))
           clear hK59
           refine aq_one (i := 15) (by kernel_rfl) rfl fun K60 hK60 => ?_
           refine ol_store (id := 5) rfl rfl rfl rfl sz22 rfl rfl (by first | decide | exact Nat.zero_lt_succ _ | simp) ?_
           refine ol_nil (to_k0 (fun _ _ h => h) (hK60 _ _ ⟨.inr (by repeat' first | exact subH_nil | refine subH_same rfl ?_ | (refine subH_blk rfl (by repeat' first | exact sub_nil | refine sub_cons rfl ?_) ?_)), ⟨.inl (by kernel_rfl), ⟨.inl (by kernel_rfl), trivial⟩⟩⟩ ?_))
           clear hK60
           refine aq_done (by kernel_rfl) ?_
           refine (to_k0 (fun _ _ h => h) (hK53 _ _ _ _ _ ?_))
           clear hK53
           refine wp_reg ?_
           refine ol_r (r_add rfl rfl (by omega)) rfl ?_
           refine ol_r (r_move rfl) rfl ?_
           refine ol_nil (to_k0 (fun _ _ h => h) (hK50 ((j + 1, _, _, _)) _ _ ?_ ?_ (sub_cons rfl sub_nil) (sub_cons rfl (sub_cons rfl (sub_cons rfl (sub_cons rfl (sub_cons rfl (sub_cons rfl sub_nil)))))) (by exact (subH_blk rfl (sub_cons rfl sub_nil) (subH_row rfl (by first | (dsimp only; first | (rw [stepV_snoc (by omega) (elV_big (by omega) (by omega)), ← List.append_assoc, encI_snoc]; done) | (rw [stepV_snoc (by omega) (elV_gap (by omega) (by omega)), ← List.append_assoc, encI_snoc]; done) | (rw [stepV_snoc (by omega) (elV_len (by omega) (by omega)), lenV_4 (by omega), ← List.append_assoc, encI_snoc]; done) | (rw [stepV_snoc (by omega) (elV_len (by omega) (by omega)), lenV_5 (by omega), ← List.append_assoc, encI_snoc]; done) | (rw [stepV_snoc (by omega) ((elV_val (by omega) (by omega)).trans (valV_1 (by omega))), ← List.append_assoc, encI_snoc]; done) | (rw [stepV_snoc (by omega) ((elV_val (by omega) (by omega)).trans (valV_2 (by omega))), ← List.append_assoc, encI_snoc]; done) | (rw [stepV_snoc (by omega) ((elV_val (by omega) (by omega)).trans (valV_3 (by omega))), ← List.append_assoc, encI_snoc]; done); done) | (first | (rw [stepV_snoc (by omega) (elV_big (by omega) (by omega)), ← List.append_assoc, encI_snoc]; done) | (rw [stepV_snoc (by omega) (elV_gap (by omega) (by omega)), ← List.append_assoc, encI_snoc]; done) | (rw [stepV_snoc (by omega) (elV_len (by omega) (by omega)), lenV_4 (by omega), ← List.append_assoc, encI_snoc]; done) | (rw [stepV_snoc (by omega) (elV_len (by omega) (by omega)), lenV_5 (by omega), ← List.append_assoc, encI_snoc]; done) | (rw [stepV_snoc (by omega) ((elV_val (by omega) (by omega)).trans (valV_1 (by omega))), ← List.append_assoc, encI_snoc]; done) | (rw [stepV_snoc (by omega) ((elV_val (by omega) (by omega)).trans (valV_2 (by omega))), ← List.append_assoc, encI_snoc]; done) | (rw [stepV_snoc (by omega) ((elV_val (by omega) (by omega)).trans (valV_3 (by omega))), ← List.append_assoc, encI_snoc]; done); done) | (dsimp only; done)) subH_nil))) (subH_same rfl (subH_same rfl (subH_same rfl (subH_same rfl (subH_same rfl subH_nil)))))))
           ·try dsimp only
            exact ⟨by omega, by omega⟩
           ·try dsimp only
            omega
        ·refine wp_exit' (QP.of (hn ((_, _, _)) _ _ ?_ (by exact (subH_blk rfl (sub_cons rfl sub_nil) (subH_row rfl (by first | (dsimp only; rw [strmL_succ hx, List.take_of_length_le (by rw [stepV_len]; omega)]; done) | (rw [strmL_succ hx, List.take_of_length_le (by rw [stepV_len]; omega)]; done) | (dsimp only; done)) subH_nil))) (subH_same rfl (subH_same rfl (subH_same rfl subH_nil)))) (fun _ _ h => h))
         try dsimp only
         refine ⟨by have := (List.getElem?_eq_some_iff.1 hx).1; omega, ?_⟩
         rw [strmL_succ hx, List.length_append, stepV_len]
         omega
      ·refine wp_reg ?_
       refine ol_r (r_fa (o' := 3) rfl fl111_3 rfl) rfl ?_
       refine ol_r (r_ld (id := 7) rfl rfl rfl sc3) rfl ?_
       refine ol_r (r_fa (o' := 3) rfl fl111_3 rfl) rfl ?_
       refine ol_r (r_ld (id := 6) rfl rfl rfl sc3) rfl ?_
       refine ol_r (r_sub rfl rfl (by omega)) rfl ?_
       refine ol_r (r_max rfl rfl) rfl ?_
       refine ol_r (r_assign rfl) rfl ?_
       refine ol_r (r_assign rfl) rfl ?_
       refine ol_nil (to_k0 (fun _ _ h => h) (hK9 _ _ _ _ _ ?_))
       clear hK9
       refine wp_seq' fun K61 hK61 => ?_
       refine wp_reg ?_
       refine ol_r (r_move rfl) rfl ?_
       refine ol_r (r_move rfl) rfl ?_
       refine ol_nil (to_k0 (fun _ _ h => h) (hK61 _ _ _ _ _ ?_))
       clear hK61
       refine wp_block' ?_
       apply wp_loopM (σ := Nat × Option Addr × Nat × Nat) (fun s => (s.1 : Int) ≤ x.2.at_ - x.1.at_ ∧ s.2.2.1 = on + s.1) (fun s => [(52, .int .i64 s.1)]) [(4, _), (5, _), (8, _), (9, _), (10, _), (51, _)] (fun s => [(5, .blk b5 [(0, .slice s.2.1 s.2.2.1 s.2.2.2)] 22), (14, .row s.2.1 s.2.2.1 s.2.2.2 (encI.enc (strmL kind A.ss k ++ (stepV kind x.1 x.2).take s.1)) 3 1)]) [(2, _), (3, _), (6, _), (7, _), (1001, _)] (fun s => (x.2.at_ - x.1.at_).toNat - s.1) ((0, _, _, _))
       ·try dsimp only
        exact ⟨by omega, rfl⟩
       ·exact (sub_cons rfl sub_nil)
       ·exact (sub_cons rfl (sub_cons rfl (sub_cons rfl (sub_cons rfl (sub_cons rfl (sub_cons rfl sub_nil))))))
       ·exact (subH_blk rfl (sub_cons rfl sub_nil) (subH_row rfl (by first | (dsimp only; rw [List.take_zero, List.append_nil]; done) | (rw [List.take_zero, List.append_nil]; done) | (dsimp only; done)) subH_nil))
       ·exact (subH_same rfl (subH_same rfl (subH_same rfl (subH_same rfl (subH_same rfl subH_nil)))))
       ·rintro ⟨j, ja, jn, jc⟩ ⟨hj, hjn⟩
        dsimp only at hj hjn ⊢
        intro K62 hK62
        refine wp_seq' fun K63 hK63 => ?_
        refine wp_reg ?_
        refine ol_r (r_lss rfl rfl) rfl ?_
        refine ol_nil (to_k0 (fun _ _ h => h) (hK63 _ _ _ _ _ ?_))
        clear hK63
        refine wp_seq' fun K64 hK64 => ?_
        first | refine wp_condD rfl (fun hc53 => ?_) (fun hc53 => ?_) | refine wp_condN rfl (fun hc53 => ?_) (fun hc53 => ?_) | refine wp_condNB rfl (fun hc53 => ?_) (fun hc53 => ?_) | refine wp_cond' rfl (fun hc53 => ?_) (fun hc53 => ?_)
        ·refine wp_skip' (to_k0 (fun _ _ h => h) (hK64 _ _ _ _ _ ?_))
         clear hK64
         refine wp_seq' fun K65 hK65 => ?_
         refine wp_block' ?_
         refine wp_seq' fun K66 hK66 => ?_
         refine wp_reg ?_
         refine ol_r (r_move rfl) rfl ?_
         refine ol_r (r_assign rfl) rfl ?_
         refine ol_nil (to_k0 (fun _ _ h => h) (hK66 _ _ _ _ _ ?_))
         clear hK66
         refine wp_block' ?_
         refine wp_seq' fun K67 hK67 => ?_
         refine wp_reg ?_
         refine ol_r (r_move rfl) rfl ?_
         refine ol_r (r_gtr rfl rfl) rfl ?_
         refine ol_r (r_move rfl) rfl ?_
         refine ol_split (d := 62) rfl (fun hs62 => ?_) (fun hs62 => ?_)
         ·have phs62 := hs62; try simp only [decide_eq_true_eq, decide_eq_false_iff_not, Bool.not_eq_true', Bool.not_eq_false', Bool.not_true, Bool.not_false] at phs62
          refine ol_g rfl rfl hs62 ?_
          refine ol_r (r_move rfl) rfl ?_
          refine ol_r (r_pickT rfl hs62 rfl) rfl ?_
          refine ol_r (r_assign rfl) rfl ?_
          refine ol_nil (to_k0 (fun _ _ h => h) (hK67 _ _ _ _ _ ?_))
          clear hK67
          refine wp_condT rfl ?_
          refine wp_reg ?_
          refine ol_r (r_ld (id := 5) rfl rfl rfl sc22) rfl ?_
          refine ol_bs1 66 rfl rfl rw22 rfl rfl rfl fun a66 => ?_
          refine ol_append1 (id := 14) (id2 := 66) rfl rfl rfl rfl rfl rw22 (by omega) rfl fun a67 c67 => ?_
          refine ol_store (id := 5) rfl rfl rfl rfl sz22 rfl rfl (by first | decide | exact Nat.zero_lt_succ _ | simp) ?_
          refine ol_nil (to_k0 (fun _ _ h => h) (hK65 _ _ _ _ _ ?_))
          clear hK65
          refine wp_reg ?_
          refine ol_r (r_add rfl rfl (by omega)) rfl ?_
          refine ol_r (r_move rfl) rfl ?_
          refine ol_nil (to_k0 (fun _ _ h => h) (hK62 ((j + 1, _, _, _)) _ _ ?_ ?_ (sub_cons rfl sub_nil) (sub_cons rfl (sub_cons rfl (sub_cons rfl (sub_cons rfl (sub_cons rfl (sub_cons rfl sub_nil)))))) (by exact (subH_blk rfl (sub_cons rfl sub_nil) (subH_row rfl (by first | (dsimp only; first | (rw [stepV_snoc (by omega) (elV_big (by omega) (by omega)), ← List.append_assoc, encI_snoc]; done) | (rw [stepV_snoc (by omega) (elV_gap (by omega) (by omega)), ← List.append_assoc, encI_snoc]; done) | (rw [stepV_snoc (by omega) (elV_len (by omega) (by omega)), lenV_4 (by omega), ← List.append_assoc, encI_snoc]; done) | (rw [stepV_snoc (by omega) (elV_len (by omega) (by omega)), lenV_5 (by omega), ← List.append_assoc, encI_snoc]; done) | (rw [stepV_snoc (by omega) ((elV_val (by omega) (by omega)).trans (valV_1 (by omega))), ← List.append_assoc, encI_snoc]; done) | (rw [stepV_snoc (by omega) ((elV_val (by omega) (by omega)).trans (valV_2 (by omega))), ← List.append_assoc, encI_snoc]; done) | (rw [stepV_snoc (by omega) ((elV_val (by omega) (by omega)).trans (valV_3 (by omega))), ← List.append_assoc, encI_snoc]; done); done) | (first | (rw [stepV_snoc (by omega) (elV_big (by omega) (by omega)), ← List.append_assoc, encI_snoc]; done) | (rw [stepV_snoc (by omega) (elV_gap (by omega) (by omega)), ← List.append_assoc, encI_snoc]; done) | (rw [stepV_snoc (by omega) (elV_len (by omega) (by omega)), lenV_4 (by omega), ← List.append_assoc, encI_snoc]; done) | (rw [stepV_snoc (by omega) (elV_len (by omega) (by omega)), lenV_5 (by omega), ← List.append_assoc, encI_snoc]; done) | (rw [stepV_snoc (by omega) ((elV_val (by omega) (by omega)).trans (valV_1 (by omega))), ← List.append_assoc, encI_snoc]; done) | (rw [stepV_snoc (by omega) ((elV_val (by omega) (by omega)).trans (valV_2 (by omega))), ← List.append_assoc, encI_snoc]; done) | (rw [stepV_snoc (by omega) ((elV_val (by omega) (by omega)).trans (valV_3 (by omega))), ← List.append_assoc, encI_snoc]; done); done) | (dsimp only; done)) subH_nil))) (subH_same rfl (subH_same rfl (subH_same rfl (subH_same rfl (subH_same rfl subH_nil)))))))
          ·try dsimp only
           exact ⟨by omega, by omega⟩
          ·try dsimp only
           omega
         ·have phs62 := hs62; try simp only [decide_eq_true_eq, decide_eq_false_iff_not, Bool.not_eq_true', Bool.not_eq_false', Bool.not_true, Bool.not_false] at phs62
          refine ol_s rfl rfl hs62 rfl ?_
          refine ol_r (r_pickF rfl hs62 rfl) rfl ?_
          refine ol_r (r_assign rfl) rfl ?_
          refine ol_nil (to_k0 (fun _ _ h => h) (hK67 _ _ _ _ _ ?_))
          clear hK67
          refine wp_condF rfl ?_
          refine wp_seq' fun K68 hK68 => ?_
          refine wp_reg ?_
          refine ol_r (r_move rfl) rfl ?_
          refine ol_r (r_gtr rfl rfl) rfl ?_
          refine ol_r (r_assign rfl) rfl ?_
          refine ol_nil (to_k0 (fun _ _ h => h) (hK68 _ _ _ _ _ ?_))
          clear hK68
          first | refine wp_condD rfl (fun hc68 => ?_) (fun hc68 => ?_) | refine wp_condN rfl (fun hc68 => ?_) (fun hc68 => ?_) | refine wp_condNB rfl (fun hc68 => ?_) (fun hc68 => ?_) | refine wp_cond' rfl (fun hc68 => ?_) (fun hc68 => ?_)
          ·refine wp_reg ?_
           refine ol_r (r_ld (id := 5) rfl rfl rfl sc22) rfl ?_
           refine ol_bs1 72 rfl rfl rw22 rfl rfl rfl fun a72 => ?_
           refine ol_append1 (id := 14) (id2 := 72) rfl rfl rfl rfl rfl rw22 (by omega) rfl fun a73 c73 => ?_
           refine ol_store (id := 5) rfl rfl rfl rfl sz22 rfl rfl (by first | decide | exact Nat.zero_lt_succ _ | simp) ?_
           refine ol_nil (to_k0 (fun _ _ h => h) (hK65 _ _ _ _ _ ?_))
           clear hK65
           refine wp_reg ?_
           refine ol_r (r_add rfl rfl (by omega)) rfl ?_
           refine ol_r (r_move rfl) rfl ?_
           refine ol_nil (to_k0 (fun _ _ h => h) (hK62 ((j + 1, _, _, _)) _ _ ?_ ?_ (sub_cons rfl sub_nil) (sub_cons rfl (sub_cons rfl (sub_cons rfl (sub_cons rfl (sub_cons rfl (sub_cons rfl sub_nil)))))) (by exact (subH_blk rfl (sub_cons rfl sub_nil) (subH_row rfl (by first | (dsimp only; first | (rw [stepV_snoc (by omega) (elV_big (by omega) (by omega)), ← List.append_assoc, encI_snoc]; done) | (rw [stepV_snoc (by omega) (elV_gap (by omega) (by omega)), ← List.append_assoc, encI_snoc]; done) | (rw [stepV_snoc (by omega) (elV_len (by omega) (by omega)), lenV_4 (by omega), ← List.append_assoc, encI_snoc]; done) | (rw [stepV_snoc (by omega) (elV_len (by omega) (by omega)), lenV_5 (by omega), ← List.append_assoc, encI_snoc]; done) | (rw [stepV_snoc (by omega) ((elV_val (by omega) (by omega)).trans (valV_1 (by omega))), ← List.append_assoc, encI_snoc]; done) | (rw [stepV_snoc (by omega) ((elV_val (by omega) (by omega)).trans (valV_2 (by omega))), ← List.append_assoc, encI_snoc]; done) | (rw [stepV_snoc (by omega) ((elV_val (by omega) (by omega)).trans (valV_3 (by omega))), ← List.append_assoc, encI_snoc]; done); done) | (first | (rw [stepV_snoc (by omega) (elV_big (by omega) (by omega)), ← List.append_assoc, encI_snoc]; done) | (rw [stepV_snoc (by omega) (elV_gap (by omega) (by omega)), ← List.append_assoc, encI_snoc]; done) | (rw [stepV_snoc (by omega) (elV_len (by omega) (by omega)), lenV_4 (by omega), ← List.append_assoc, encI_snoc]; done) | (rw [stepV_snoc (by omega) (elV_len (by omega) (by omega)), lenV_5 (by omega), ← List.append_assoc, encI_snoc]; done) | (rw [stepV_snoc (by omega) ((elV_val (by omega) (by omega)).trans (valV_1 (by omega))), ← List.append_assoc, encI_snoc]; done) | (rw [stepV_snoc (by omega) ((elV_val (by omega) (by omega)).trans (valV_2 (by omega))), ← List.append_assoc, encI_snoc]; done) | (rw [stepV_snoc (by omega) ((elV_val (by omega) (by omega)).trans (valV_3 (by omega))), ← List.append_assoc, encI_snoc]; done); done) | (dsimp only; done)) subH_nil))) (subH_same rfl (subH_same rfl (subH_same rfl (subH_same rfl (subH_same rfl subH_nil)))))))
           ·try dsimp only
            exact ⟨by omega, by omega⟩
           ·try dsimp only
            omega
          ·refine wp_seq' fun K69 hK69 => ?_
           refine wp_reg ?_
           refine ol_r (r_move rfl) rfl ?_
           refine ol_r (r_assign rfl) rfl ?_
           refine ol_nil (to_k0 (fun _ _ h => h) (hK69 _ _ _ _ _ ?_))
           clear hK69
           refine wp_condT rfl ?_
           refine wp_rega [(999, [(2, _), (3, _), (6, _), (7, _), (1001, _)]), (15, [(5, _)]), (14, [(14, _)])] (by kernel_rfl) ⟨.inr (subH_same rfl (subH_same rfl (subH_same rfl (subH_same rfl (subH_same rfl subH_nil))))), ⟨.inr (subH_same rfl subH_nil), ⟨.inr (subH_same rfl subH_nil), trivial⟩⟩⟩ ?_
           refine aq_r 0 15 rfl (by kernel_rfl) (by kernel_rfl) (by kernel_rfl) (.tail _ (.head _)) (by kernel_rfl) (by kernel_rfl) rfl (r_ld (id := 5) rfl rfl rfl sc22) ?_
           refine aq_r 1 999 rfl (by kernel_rfl) (by kernel_rfl) (by kernel_rfl) (.head _) (by kernel_rfl) (by kernel_rfl) rfl (r_move rfl) ?_
           refine aq_r 2 999 rfl (by kernel_rfl) (by kernel_rfl) (by kernel_rfl) (.head _) (by kernel_rfl) (by kernel_rfl) rfl (r_move rfl) ?_
           have bl := lenD_bd hp hq
           have hn60 : x.2.at_ - x.1.at_ ≤ 60 := by omega
           have m1 := mul_bd (a := lenD x.1 x.2) (b := (j : Int) + 1) (A := 300000000) (B := 60) (by omega) (by omega) (by omega) (by omega)
           have m2 := mul_bd (a := lenD x.1 x.2) (b := (j : Int)) (A := 300000000) (B := 60) (by omega) (by omega) (by omega) (by omega)
           have m3 := mul_bd (a := max (x.2.z - x.1.z) 0) (b := (j : Int) + 1) (A := 300000000) (B := 60) (by omega) (by omega) (by omega) (by omega)
           have m4 := mul_bd (a := max (x.2.z - x.1.z) 0) (b := (j : Int)) (A := 300000000) (B := 60) (by omega) (by omega) (by omega) (by omega)
           have d1 := spread_bd (v := lenD x.1 x.2) (n := x.2.at_ - x.1.at_) (j := j) (by omega) (by omega)
           have d2 := spread_bd (v := max (x.2.z - x.1.z) 0) (n := x.2.at_ - x.1.at_) (j := j) (by omega) (by omega)
           refine aq_r 3 999 rfl (by kernel_rfl) (by kernel_rfl) (by kernel_rfl) (.head _) (by kernel_rfl) (by kernel_rfl) rfl (r_add rfl rfl (by omega)) ?_
           refine aq_r 4 999 rfl (by kernel_rfl) (by kernel_rfl) (by kernel_rfl) (.head _) (by kernel_rfl) (by kernel_rfl) rfl (r_mul rfl rfl (by omega)) ?_
           refine aq_r 5 999 rfl (by kernel_rfl) (by kernel_rfl) (by kernel_rfl) (.head _) (by kernel_rfl) (by kernel_rfl) rfl (r_move rfl) ?_
           first | refine aq_r 6 999 rfl (by kernel_rfl) (by kernel_rfl) (by kernel_rfl) (.head _) (by kernel_rfl) (by kernel_rfl) rfl (r_quo rfl rfl (by omega)) ?_ | refine aq_r 6 999 rfl (by kernel_rfl) (by kernel_rfl) (by kernel_rfl) (.head _) (by kernel_rfl) (by kernel_rfl) rfl (r_tquo rfl rfl (by omega)) ?_
           refine aq_r 7 999 rfl (by kernel_rfl) (by kernel_rfl) (by kernel_rfl) (.head _) (by kernel_rfl) (by kernel_rfl) rfl (r_move rfl) ?_
           refine aq_r 8 999 rfl (by kernel_rfl) (by kernel_rfl) (by kernel_rfl) (.head _) (by kernel_rfl) (by kernel_rfl) rfl (r_move rfl) ?_
           refine aq_r 9 999 rfl (by kernel_rfl) (by kernel_rfl) (by kernel_rfl) (.head _) (by kernel_rfl) (by kernel_rfl) rfl (r_mul rfl rfl (by omega)) ?_
           refine aq_r 10 999 rfl (by kernel_rfl) (by kernel_rfl) (by kernel_rfl) (.head _) (by kernel_rfl) (by kernel_rfl) rfl (r_move rfl) ?_
           first | refine aq_r 11 999 rfl (by kernel_rfl) (by kernel_rfl) (by kernel_rfl) (.head _) (by kernel_rfl) (by kernel_rfl) rfl (r_quo rfl rfl (by omega)) ?_ | refine aq_r 11 999 rfl (by kernel_rfl) (by kernel_rfl) (by kernel_rfl) (.head _) (by kernel_rfl) (by kernel_rfl) rfl (r_tquo rfl rfl (by omega)) ?_
           refine aq_r 12 999 rfl (by kernel_rfl) (by kernel_rfl) (by kernel_rfl) (.head _) (by kernel_rfl) (by kernel_rfl) rfl (r_sub rfl rfl (by omega)) ?_
           refine aq_one (i := 13) (by kernel_rfl) rfl fun K70 hK70 => ?_
           refine ol_bs1 89 rfl rfl rw22 rfl rfl rfl fun a89 => ?_
           refine ol_nil (to_k0 (fun _ _ h => h) (hK70 _ _ ⟨.inr (by repeat' first | exact subH_nil | refine subH_same rfl ?_ | (refine subH_blk rfl (by repeat' first | exact sub_nil | refine sub_cons rfl ?_) ?_)), ⟨.inr (by repeat' first | exact subH_nil | refine subH_same rfl ?_ | (refine subH_blk rfl (by repeat' first | exact sub_nil | refine sub_cons rfl ?_) ?_)), ⟨.inr (by repeat' first | exact subH_nil | refine subH_same rfl ?_ | (refine subH_blk rfl (by repeat' first | exact sub_nil | refine sub_cons rfl ?_) ?_)), trivial⟩⟩⟩ ?_))
           clear hK70
           refine aq_one (i := 14) (by kernel_rfl) rfl fun K71 hK71 => ?_
           refine ol_append1 (id := 14) (id2 := 89) rfl rfl rfl rfl rfl rw22 (by omega) rfl fun a90 c90 => ?_
           refine ol_nil (to_k0 (fun _ _ h => h) (hK71 _ _ ⟨.inr (by repeat' first | exact subH_nil | refine subH_same rfl ?_ | (refine subH_blk rfl (by repeat' first | exact sub_nil | refine sub_cons rfl ?_) ?_)), ⟨.inr (by repeat' first | exact subH_nil | refine subH_same rfl ?_ | (refine subH_blk rfl (by repeat' first | exact sub_nil | refine sub_cons rfl ?_) ?_)), ⟨.inl (by kernel_rfl), trivial⟩⟩⟩ ?_))
           clear hK71
           refine aq_one (i := 15) (by kernel_rfl) rfl fun K72 hK72 => ?_
           refine ol_store (id := 5) rfl rfl rfl rfl sz22 rfl rfl (by first | decide | exact Nat.zero_lt_succ _ | simp) ?_
           refine ol_nil (to_k0 (fun _ _ h => h) (hK72 _ _ ⟨.inr (by repeat' first | exact subH_nil | refine subH_same rfl ?_ | (refine subH_blk rfl (by repeat' first | exact sub_nil | refine sub_cons rfl ?_) ?_)), ⟨.inl (by kernel_rfl), ⟨.inl (by kernel_rfl), trivial⟩⟩⟩ ?_))
           clear hK72
           refine aq_done (by kernel_rfl) ?_
           refine (to_k0 (fun _ _ h => h) (hK65 _ _ _ _ _ ?_))
           clear hK65
           refine wp_reg ?_
           refine ol_r (r_add rfl rfl (by omega)) rfl ?_
           refine ol_r (r_move rfl) rfl ?_
           refine ol_nil (to_k0 (fun _ _ h => h) (hK62 ((j + 1, _, _, _)) _ _ ?_ ?_ (sub_cons rfl sub_nil) (sub_cons rfl (sub_cons rfl (sub_cons rfl (sub_cons rfl (sub_cons rfl (sub_cons rfl sub_nil)))))) (by exact (subH_blk rfl (sub_cons rfl sub_nil) (subH_row rfl (by first | (dsimp only; first | (rw [stepV_snoc (by omega) (elV_big (by omega) (by omega)), ← List.append_assoc, encI_snoc]; done) | (rw [stepV_snoc (by omega) (elV_gap (by omega) (by omega)), ← List.append_assoc, encI_snoc]; done) | (rw [stepV_snoc (by omega) (elV_len (by omega) (by omega)), lenV_4 (by omega), ← List.append_assoc, encI_snoc]; done) | (rw [stepV_snoc (by omega) (elV_len (by omega) (by omega)), lenV_5 (by omega), ← List.append_assoc, encI_snoc]; done) | (rw [stepV_snoc (by omega) ((elV_val (by omega) (by omega)).trans (valV_1 (by omega))), ← List.append_assoc, encI_snoc]; done) | (rw [stepV_snoc (by omega) ((elV_val (by omega) (by omega)).trans (valV_2 (by omega))), ← List.append_assoc, encI_snoc]; done) | (rw [stepV_snoc (by omega) ((elV_val (by omega) (by omega)).trans (valV_3 (by omega))), ← List.append_assoc, encI_snoc]; done); done) | (first | (rw [stepV_snoc (by omega) (elV_big (by omega) (by omega)), ← List.append_assoc, encI_snoc]; done) | (rw [stepV_snoc (by omega) (elV_gap (by omega) (by omega)), ← List.append_assoc, encI_snoc]; done) | (rw [stepV_snoc (by omega) (elV_len (by omega) (by omega)), lenV_4 (by omega), ← List.append_assoc, encI_snoc]; done) | (rw [stepV_snoc (by omega) (elV_len (by omega) (by omega)), lenV_5 (by omega), ← List.append_assoc, encI_snoc]; done) | (rw [stepV_snoc (by omega) ((elV_val (by omega) (by omega)).trans (valV_1 (by omega))), ← List.append_assoc, encI_snoc]; done) | (rw [stepV_snoc (by omega) ((elV_val (by omega) (by omega)).trans (valV_2 (by omega))), ← List.append_assoc, encI_snoc]; done) | (rw [stepV_snoc (by omega) ((elV_val (by omega) (by omega)).trans (valV_3 (by omega))), ← List.append_assoc, encI_snoc]; done); done) | (dsimp only; done)) subH_nil))) (subH_same rfl (subH_same rfl (subH_same rfl (subH_same rfl (subH_same rfl subH_nil)))))))
           ·try dsimp only
            exact ⟨by omega, by omega⟩
           ·try dsimp only
            omega
        ·refine wp_exit' (QP.of (hn ((_, _, _)) _ _ ?_ (by exact (subH_blk rfl (sub_cons rfl sub_nil) (subH_row rfl (by first | (dsimp only; rw [strmL_succ hx, List.take_of_length_le (by rw [stepV_len]; omega)]; done) | (rw [strmL_succ hx, List.take_of_length_le (by rw [stepV_len]; omega)]; done) | (dsimp only; done)) subH_nil))) (subH_same rfl (subH_same rfl (subH_same rfl subH_nil)))) (fun _ _ h => h))
         try dsimp only
         refine ⟨by have := (List.getElem?_eq_some_iff.1 hx).1; omega, ?_⟩
         rw [strmL_succ hx, List.length_append, stepV_len]
         omega
  ·rintro s dd hI
   refine (to_k0 (fun _ _ h => h) (hK3 _ _ _ _ _ ?_))
   clear hK3
   refine wp_seq' fun K73 hK73 => ?_
   refine wp_reg ?_
   refine ol_r (r_ld (id := 5) rfl rfl rfl sc22) rfl ?_
   refine ol_r (r_assign rfl) rfl ?_
   refine ol_nil (to_k0 (fun _ _ h => h) (hK73 _ _ _ _ _ ?_))
   clear hK73
   refine hQ.ret (rvs1 (rv_t rfl)) (fun _ _ h => h) fun w hb hs hB hkd => ?_
   have h2 := hs.ok 14 _ rfl
   rw [hlen] at h2
   exact ⟨_, _, _, rfl, hb, h2⟩
  ·exact fun t dd hI => hI.elim
end Go.Proofs.Ytafkojlccknicaa
