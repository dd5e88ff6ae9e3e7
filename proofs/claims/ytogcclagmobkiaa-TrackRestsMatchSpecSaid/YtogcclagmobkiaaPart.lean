/-
  Activities with other samples: program and reference.
-/
import Derived.Test.YtogcclagmobkiaaPartM
import Derived.Test.YtogcclagmobkiaaClones
import Derived.Test.YtogcclagmobkiaaCheck
import Derived.Test.YtogcclagmobkiaaRoot
namespace Go.Proofs.Ytogcclagmobkiaa
open Go Go.RowKit Hx
set_option linter.unusedVariables false
set_option linter.unusedSimpArgs false
set_option maxRecDepth 8000
theorem SmpOk.span {st : Int} {ss : List SmpR} (h : SmpOk st ss) : 0 ≤ spanL ss ∧ spanL ss ≤ 1000000 := by
  unfold spanL
  split
  · rename_i x hx
    have := h.bd x (List.mem_of_getElem? hx)
    omega
  · omega
theorem record_Clone (A : ActV) (w : World) (hA : A.Ok w.heap.size w) (h1 : A.sn ≤ 1000000) (h2 : A.ln ≤ 1000000) (h3 : A.tn ≤ 1000000) :
    Calls Try.prog 48 #[.agg #[.string A.name, .int .i64 A.sport, .int .i64 A.start, .slice A.sa A.sn A.sc, .slice A.la A.ln A.lc, .slice A.ta A.tn A.tc]] w fun e w' => ∃ sa sn sc la ln lc ta tn tc, e = .returned (.agg #[.string A.name, .int .i64 A.sport, .int .i64 A.start, .slice sa sn sc, .slice la ln lc, .slice ta tn tc]) ∧ Below w.heap.size w w' ∧
      Sat w.heap.size w' [(1001, .row sa sn sc (encSmp.enc A.ss) 28 7), (1002, .row la ln lc (encLap.enc A.ls) 66 3), (1003, .row ta tn tc (encStr.enc A.ts) 9 1)] := by
  refine enterQ (N := 16) (C := fun _ => True) (H := []) (B := w.heap.size) (args := [_]) Try.func48 rfl rfl rfl (Nat.le_refl _) (Sat.nil _ _) fun Q hQ => ?_
  refine wp_seq' fun K1 hK1 => ?_
  refine wp_reg ?_
  refine ol_box 1 rfl rfl rfl fun b1 => ?_
  refine ol_alloc 2 z26 rfl fun b2 => ?_
  refine ol_nil (to_k0 (fun _ _ h => h) (hK1 _ _ _ _ _ ?_))
  clear hK1
  refine wp_seq' fun K2 hK2 => ?_
  refine wp_rega [(999, [(2, _)]), (10, [(1, _)])] (by kernel_rfl) ⟨.inr (subH_same rfl subH_nil), ⟨.inr (subH_same rfl subH_nil), trivial⟩⟩ ?_
  refine aq_r 0 999 rfl (by kernel_rfl) (by kernel_rfl) (by kernel_rfl) (.head _) (by kernel_rfl) (by kernel_rfl) rfl (r_fa (o' := 3) rfl fl26_3 rfl) ?_
  refine aq_r 1 10 rfl (by kernel_rfl) (by kernel_rfl) (by kernel_rfl) (.tail _ (.head _)) (by kernel_rfl) (by kernel_rfl) rfl (r_ld (id := 1) rfl rfl rfl sc22) ?_
  refine aq_r 3 999 rfl (by kernel_rfl) (by kernel_rfl) (by kernel_rfl) (.head _) (by kernel_rfl) (by kernel_rfl) rfl (r_fa (o' := 4) rfl fl26_4 rfl) ?_
  refine aq_r 4 10 rfl (by kernel_rfl) (by kernel_rfl) (by kernel_rfl) (.tail _ (.head _)) (by kernel_rfl) (by kernel_rfl) rfl (r_ld (id := 1) rfl rfl rfl sc23) ?_
  refine aq_r 6 999 rfl (by kernel_rfl) (by kernel_rfl) (by kernel_rfl) (.head _) (by kernel_rfl) (by kernel_rfl) rfl (r_fa (o' := 5) rfl fl26_5 rfl) ?_
  refine aq_r 7 10 rfl (by kernel_rfl) (by kernel_rfl) (by kernel_rfl) (.tail _ (.head _)) (by kernel_rfl) (by kernel_rfl) rfl (r_ld (id := 1) rfl rfl rfl sc24) ?_
  refine aq_one (i := 2) (by kernel_rfl) rfl fun K3 hK3 => ?_
  refine ol_call rfl rfl cb102 rfl (fun w1 hb1 hs1 hB1 => Calls.mono (clone_smp _ _ _ A.ss _ (hA.s.at hb1 hB1) h1) ?_)
  rintro e w2 ⟨a5, n5, c5, rfl, hf5⟩
  refine After.fresh (id := 5) rfl hb1 hs1 hB1 hf5 ?_
  have hl5 := hf5.len; clear hf5 hB1 hs1 hb1 w2 w1
  refine ol_nil (to_k0 (fun _ _ h => h) (hK3 _ _ ⟨.inr (by repeat' first | exact subH_nil | refine subH_same rfl ?_ | (refine subH_blk rfl (by repeat' first | exact sub_nil | refine sub_cons rfl ?_) ?_)), ⟨.inr (by repeat' first | exact subH_nil | refine subH_same rfl ?_ | (refine subH_blk rfl (by repeat' first | exact sub_nil | refine sub_cons rfl ?_) ?_)), trivial⟩⟩ ?_))
  clear hK3
  refine aq_r 9 999 rfl (by kernel_rfl) (by kernel_rfl) (by kernel_rfl) (.head _) (by kernel_rfl) (by kernel_rfl) rfl (r_fa (o' := 3) rfl fl26_3 rfl) ?_
  refine aq_one (i := 5) (by kernel_rfl) rfl fun K4 hK4 => ?_
  refine ol_call rfl rfl cb103 rfl (fun w1 hb1 hs1 hB1 => Calls.mono (clone_lap _ _ _ A.ls _ (hA.l.at hb1 hB1) h2) ?_)
  rintro e w2 ⟨a8, n8, c8, rfl, hf8⟩
  refine After.fresh (id := 8) rfl hb1 hs1 hB1 hf8 ?_
  have hl8 := hf8.len; clear hf8 hB1 hs1 hb1 w2 w1
  refine ol_nil (to_k0 (fun _ _ h => h) (hK4 _ _ ⟨.inr (by repeat' first | exact subH_nil | refine subH_same rfl ?_ | (refine subH_blk rfl (by repeat' first | exact sub_nil | refine sub_cons rfl ?_) ?_)), ⟨.inr (by repeat' first | exact subH_nil | refine subH_same rfl ?_ | (refine subH_blk rfl (by repeat' first | exact sub_nil | refine sub_cons rfl ?_) ?_)), trivial⟩⟩ ?_))
  clear hK4
  refine aq_one (i := 8) (by kernel_rfl) rfl fun K5 hK5 => ?_
  refine ol_call rfl rfl cb104 rfl (fun w1 hb1 hs1 hB1 => Calls.mono (clone_str _ _ _ A.ts _ (hA.t.at hb1 hB1) h3) ?_)
  rintro e w2 ⟨a11, n11, c11, rfl, hf11⟩
  refine After.fresh (id := 11) rfl hb1 hs1 hB1 hf11 ?_
  have hl11 := hf11.len; clear hf11 hB1 hs1 hb1 w2 w1
  refine ol_nil (to_k0 (fun _ _ h => h) (hK5 _ _ ⟨.inr (by repeat' first | exact subH_nil | refine subH_same rfl ?_ | (refine subH_blk rfl (by repeat' first | exact sub_nil | refine sub_cons rfl ?_) ?_)), ⟨.inr (by repeat' first | exact subH_nil | refine subH_same rfl ?_ | (refine subH_blk rfl (by repeat' first | exact sub_nil | refine sub_cons rfl ?_) ?_)), trivial⟩⟩ ?_))
  clear hK5
  refine aq_one (i := 10) (by kernel_rfl) rfl fun K6 hK6 => ?_
  refine ol_store (id := 1) rfl rfl rfl rfl sz22 rfl rfl (by first | decide | exact Nat.zero_lt_succ _ | simp) ?_
  refine ol_nil (to_k0 (fun _ _ h => h) (hK6 _ _ ⟨.inr (by repeat' first | exact subH_nil | refine subH_same rfl ?_ | (refine subH_blk rfl (by repeat' first | exact sub_nil | refine sub_cons rfl ?_) ?_)), ⟨.inl (by kernel_rfl), trivial⟩⟩ ?_))
  clear hK6
  refine aq_r 11 999 rfl (by kernel_rfl) (by kernel_rfl) (by kernel_rfl) (.head _) (by kernel_rfl) (by kernel_rfl) rfl (r_fa (o' := 4) rfl fl26_4 rfl) ?_
  refine aq_one (i := 12) (by kernel_rfl) rfl fun K7 hK7 => ?_
  refine ol_store (id := 1) rfl rfl rfl rfl sz23 rfl rfl (by first | decide | exact Nat.zero_lt_succ _ | simp) ?_
  refine ol_nil (to_k0 (fun _ _ h => h) (hK7 _ _ ⟨.inr (by repeat' first | exact subH_nil | refine subH_same rfl ?_ | (refine subH_blk rfl (by repeat' first | exact sub_nil | refine sub_cons rfl ?_) ?_)), ⟨.inl (by kernel_rfl), trivial⟩⟩ ?_))
  clear hK7
  refine aq_r 13 999 rfl (by kernel_rfl) (by kernel_rfl) (by kernel_rfl) (.head _) (by kernel_rfl) (by kernel_rfl) rfl (r_fa (o' := 5) rfl fl26_5 rfl) ?_
  refine aq_one (i := 14) (by kernel_rfl) rfl fun K8 hK8 => ?_
  refine ol_store (id := 1) rfl rfl rfl rfl sz24 rfl rfl (by first | decide | exact Nat.zero_lt_succ _ | simp) ?_
  refine ol_nil (to_k0 (fun _ _ h => h) (hK8 _ _ ⟨.inr (by repeat' first | exact subH_nil | refine subH_same rfl ?_ | (refine subH_blk rfl (by repeat' first | exact sub_nil | refine sub_cons rfl ?_) ?_)), ⟨.inl (by kernel_rfl), trivial⟩⟩ ?_))
  clear hK8
  refine aq_done (by kernel_rfl) ?_
  refine (to_k0 (fun _ _ h => h) (hK2 _ _ _ _ _ ?_))
  clear hK2
  refine wp_seq' fun K9 hK9 => ?_
  refine wp_reg ?_
  refine ol_r (r_lda (id := 1) (n := 6) rfl rfl rfl ag26) rfl ?_
  refine ol_store (id := 2) rfl rfl rfl rfl sz26 rfl rfl (by first | decide | exact Nat.zero_lt_succ _ | simp) ?_
  refine ol_nil (to_k0 (fun _ _ h => h) (hK9 _ _ _ _ _ ?_))
  clear hK9
  refine hQ.ret (rvs1 (rv_c (id := 2) (n := 6) rfl rfl ag26 rfl)) (fun _ _ h => h) fun w hb hs hB hkd => ?_
  exact ⟨_, _, _, _, _, _, _, _, _, rfl, hb, hs.three 5 8 11 1001 1002 1003 (by decide) (by decide) (by decide) rfl rfl rfl (Ent.le_refl _) (Ent.le_refl _) (Ent.le_refl _)⟩
theorem track_moved (a : Option Addr) (n c : Nat) (xs : List LapR) (by_ span : Int) (w : World) (hl : Rd encLap w.heap.size w a n c xs) (hn : n ≤ 1000000) (hb : ∀ x ∈ xs, -1000000000000 ≤ x.from_ - by_ ∧ x.from_ - by_ ≤ 1000000000000 ∧ -1000000000000 ≤ x.to - by_ ∧ x.to - by_ ≤ 1000000000000) :
    Calls Try.prog 110 #[.slice a n c, .int .i64 by_, .int .i64 span] w fun e w' => ∃ b m k, e = .returned (.slice b m k) ∧ Fresh encLap 66 w w' b m k (backL by_ span xs) := by
  have hln := hl.len
  refine enterQ (N := 43) (C := fun _ => True) (H := []) (B := w.heap.size) (args := [_, _, _]) Try.func110 rfl rfl rfl (Nat.le_refl _) (Sat.nil _ _) fun Q hQ => ?_
  refine wp_seq' fun K1 hK1 => ?_
  refine wp_reg ?_
  refine ol_r (r_assign rfl) rfl ?_
  refine ol_nil (to_k0 (fun _ _ h => h) (hK1 _ _ _ _ _ ?_))
  clear hK1
  refine wp_seq' fun K2 hK2 => ?_
  refine wp_reg ?_
  refine ol_nilrow 7 66 3 ?_
  refine ol_r (r_assign rfl) rfl ?_
  refine ol_nil (to_k0 (fun _ _ h => h) (hK2 _ _ _ _ _ ?_))
  clear hK2
  refine wp_seq' fun K3 hK3 => ?_
  refine wp_seq' fun K4 hK4 => ?_
  refine wp_reg ?_
  refine ol_r (r_move rfl) rfl ?_
  refine ol_r (r_len rfl sl23) rfl ?_
  refine ol_r (r_move rfl) rfl ?_
  refine ol_nil (to_k0 (fun _ _ h => h) (hK4 _ _ _ _ _ ?_))
  clear hK4
  refine wp_block' ?_
  apply wp_loopM (σ := Nat × Option Addr × Nat × Nat) (fun s => s.1 ≤ xs.length ∧ s.2.2.1 ≤ s.1) (fun s => [(12, .int .i64 s.1), (7, .slice s.2.1 s.2.2.1 s.2.2.2)]) [(1, _), (2, _), (6, _), (10, _), (11, _)] (fun s => [(7, .row s.2.1 s.2.2.1 s.2.2.2 (encLap.enc (backL by_ span (xs.take s.1))) 66 3)]) [] (fun s => xs.length - s.1) ((0, none, 0, 0))
  ·try dsimp only
   exact ⟨Nat.zero_le _, Nat.le_refl _⟩
  ·exact (sub_cons rfl (sub_cons rfl sub_nil))
  ·exact (sub_cons rfl (sub_cons rfl (sub_cons rfl (sub_cons rfl (sub_cons rfl sub_nil)))))
  ·exact (subH_row rfl (by dsimp only; rfl) subH_nil)
  ·exact subH_nil
  ·rintro ⟨k, oa, on, oc⟩ ⟨hk, hon⟩
   dsimp only at hk hon ⊢
   intro K5 hK5
   refine wp_seq' fun K6 hK6 => ?_
   refine wp_reg ?_
   refine ol_r (r_lss rfl rfl) rfl ?_
   refine ol_nil (to_k0 (fun _ _ h => h) (hK6 _ _ _ _ _ ?_))
   clear hK6
   refine wp_seq' fun K7 hK7 => ?_
   refine wp_condD rfl (fun hc13 => ?_) (fun hc13 => ?_)
   ·refine wp_skip' (to_k0 (fun _ _ h => h) (hK7 _ _ _ _ _ ?_))
    clear hK7
    refine wp_seq' fun K8 hK8 => ?_
    refine wp_block' ?_
    refine wp_seq' fun K9 hK9 => ?_
    refine wp_reg ?_
    refine ol_ixr hl rfl rfl sl23 (by omega) rfl fun x14 hx14 => ?_
    try simp only [Int.toNat_natCast] at hx14
    refine ol_r (r_ldw rfl (fun w1 hb1 hs1 hB1 => Rd.loads hl ty66 hx14 hb1)) rfl ?_
    refine ol_alloc 9 z66 rfl fun b9 => ?_
    refine ol_store (id := 9) rfl rfl rfl rfl sz66 rfl rfl (by first | decide | exact Nat.zero_lt_succ _ | simp) ?_
    refine ol_nil (to_k0 (fun _ _ h => h) (hK9 _ _ _ _ _ ?_))
    clear hK9
    refine wp_seq' fun K10 hK10 => ?_
    refine wp_reg ?_
    refine ol_r (r_fa (o' := 0) rfl fl66_0 rfl) rfl ?_
    refine ol_r (r_ld (id := 9) rfl rfl rfl sc3) rfl ?_
    refine ol_r (r_move rfl) rfl ?_
    have hbx := hb _ (List.mem_of_getElem? hx14)
    refine ol_r (r_sub rfl rfl (by omega)) rfl ?_
    refine ol_r (r_max rfl rfl) rfl ?_
    refine ol_r (r_move rfl) rfl ?_
    refine ol_r (r_min rfl rfl) rfl ?_
    refine ol_r (r_fa (o' := 1) rfl fl66_1 rfl) rfl ?_
    refine ol_r (r_ld (id := 9) rfl rfl rfl sc3) rfl ?_
    refine ol_r (r_move rfl) rfl ?_
    refine ol_r (r_sub rfl rfl (by omega)) rfl ?_
    refine ol_r (r_max rfl rfl) rfl ?_
    refine ol_r (r_move rfl) rfl ?_
    refine ol_r (r_min rfl rfl) rfl ?_
    refine ol_r (r_fa (o' := 0) rfl fl66_0 rfl) rfl ?_
    refine ol_store (id := 9) rfl rfl rfl rfl sz3 rfl rfl (by first | decide | exact Nat.zero_lt_succ _ | simp) ?_
    refine ol_r (r_fa (o' := 1) rfl fl66_1 rfl) rfl ?_
    refine ol_store (id := 9) rfl rfl rfl rfl sz3 rfl rfl (by first | decide | exact Nat.zero_lt_succ _ | simp) ?_
    refine ol_nil (to_k0 (fun _ _ h => h) (hK10 _ _ _ _ _ ?_))
    clear hK10
    refine wp_seq' fun K11 hK11 => ?_
    refine wp_reg ?_
    refine ol_r (r_fa (o' := 0) rfl fl66_0 rfl) rfl ?_
    refine ol_r (r_ld (id := 9) rfl rfl rfl sc3) rfl ?_
    refine ol_r (r_fa (o' := 1) rfl fl66_1 rfl) rfl ?_
    refine ol_r (r_ld (id := 9) rfl rfl rfl sc3) rfl ?_
    refine ol_r (r_lss rfl rfl) rfl ?_
    refine ol_nil (to_k0 (fun _ _ h => h) (hK11 _ _ _ _ _ ?_))
    clear hK11
    refine wp_condD rfl (fun hc36 => ?_) (fun hc36 => ?_)
    ·refine wp_reg ?_
     refine ol_r (r_move rfl) rfl ?_
     refine ol_r (r_lda (id := 9) (n := 3) rfl rfl rfl ag66) rfl ?_
     refine ol_bs1 39 rfl rfl rw23 rfl rfl rfl fun a39 => ?_
     refine ol_append1 (id := 7) (id2 := 39) rfl rfl rfl rfl rfl rw23 (by omega) rfl fun a40 c40 => ?_
     refine ol_r (r_assign rfl) rfl ?_
     refine ol_nil (to_k0 (fun _ _ h => h) (hK8 _ _ _ _ _ ?_))
     clear hK8
     refine wp_reg ?_
     refine ol_r (r_add rfl rfl (by omega)) rfl ?_
     refine ol_r (r_move rfl) rfl ?_
     refine ol_nil (to_k0 (fun _ _ h => h) (hK5 ((k + 1, _, _, _)) _ _ ?_ ?_ (sub_cons rfl (sub_cons rfl sub_nil)) (sub_cons rfl (sub_cons rfl (sub_cons rfl (sub_cons rfl (sub_cons rfl sub_nil))))) (by exact (subH_row rfl (by first | (dsimp only; first | (rw [backL_yes hx14 hc36, Enc.enc_append]; rfl) | (rw [backL_no hx14 hc36]); done) | (first | (rw [backL_yes hx14 hc36, Enc.enc_append]; rfl) | (rw [backL_no hx14 hc36]); done) | (dsimp only; done)) subH_nil)) subH_nil))
     ·try dsimp only
      exact ⟨by omega, by omega⟩
     ·try dsimp only
      omega
    ·refine wp_skip' (to_k0 (fun _ _ h => h) (hK8 _ _ _ _ _ ?_))
     clear hK8
     refine wp_reg ?_
     refine ol_r (r_add rfl rfl (by omega)) rfl ?_
     refine ol_r (r_move rfl) rfl ?_
     refine ol_nil (to_k0 (fun _ _ h => h) (hK5 ((k + 1, _, _, _)) _ _ ?_ ?_ (sub_cons rfl (sub_cons rfl sub_nil)) (sub_cons rfl (sub_cons rfl (sub_cons rfl (sub_cons rfl (sub_cons rfl sub_nil))))) (by exact (subH_row rfl (by dsimp only; first | (rw [backL_yes hx14 hc36, Enc.enc_append]; rfl) | (rw [backL_no hx14 hc36])) subH_nil)) subH_nil))
     ·try dsimp only
      exact ⟨by omega, by omega⟩
     ·try dsimp only
      omega
   ·refine wp_exit' (to_k0 (fun _ _ h => h) (hK3 _ _ _ _ _ ?_))
    clear hK3
    refine wp_seq' fun K12 hK12 => ?_
    refine wp_reg ?_
    refine ol_r (r_move rfl) rfl ?_
    refine ol_r (r_assign rfl) rfl ?_
    refine ol_nil (to_k0 (fun _ _ h => h) (hK12 _ _ _ _ _ ?_))
    clear hK12
    refine hQ.ret (rvs1 (rv_t rfl)) (fun _ _ h => h) fun w hb hs hB hkd => ?_
    have h9 := hs.ok 7 _ rfl
    rw [List.take_of_length_le (by omega)] at h9
    exact ⟨_, _, _, rfl, hb, h9⟩
/-- An activity that goes out, in memory of its own. -/
def OutA (B : Nat) (w' : World) (r : ActD × Int) (e : Ending) : Prop :=
  ∃ sa sn sc la ln lc ta tn tc, e = .returned (.tuple #[.agg #[.string r.1.name, .int .i64 r.1.sport, .int .i64 r.1.start, .slice sa sn sc, .slice la ln lc, .slice ta tn tc], .int .i64 r.2]) ∧
    Sat B w' [(1001, .row sa sn sc (encSmp.enc r.1.ss) 28 7), (1002, .row la ln lc (encLap.enc r.1.ls) 66 3), (1003, .row ta tn tc (encStr.enc r.1.ts) 9 1)]
theorem back_lo {l : List SmpR} {b : Int} (hat : ∀ x ∈ l, -1000000000 ≤ x.at_ ∧ x.at_ ≤ 1000000000) (hby : -1000000000 ≤ b ∧ b ≤ 1000000000) : ∀ x ∈ backS b l, -9223372036854775808 ≤ x.at_ ∧ x.at_ ≤ 9223372036854775807 := by
  intro x hx
  obtain ⟨y, hy, rfl⟩ := List.mem_map.1 hx
  have := hat y hy
  show _ ≤ y.at_ - b ∧ y.at_ - b ≤ _
  omega
theorem back_lm {l : List LapR} {b sp : Int} {N : Nat} (h : ∀ x ∈ l, x.name.size ≤ N) : ∀ x ∈ backL b sp l, x.name.size ≤ N := by
  intro x hx
  obtain ⟨y, hy, rfl⟩ := List.mem_map.1 (List.mem_filter.1 hx).1
  exact h y hy
theorem track_part (A : ActV) (a : Option Addr) (n c : Nat) (l : List SmpR) (b : Int) (w : World) (hA : A.Ok w.heap.size w) (hl : Rd encSmp w.heap.size w a n c l) (hg : GoodA A.d) (hn : n ≤ 1000000) (hat : ∀ x ∈ l, -1000000000 ≤ x.at_ ∧ x.at_ ≤ 1000000000) (hby : -1000000000 ≤ b ∧ b ≤ 1000000000) :
    Calls Try.prog 64 #[.agg #[.string A.name, .int .i64 A.sport, .int .i64 A.start, .slice A.sa A.sn A.sc, .slice A.la A.ln A.lc, .slice A.ta A.tn A.tc], .slice a n c, .int .i64 b] w fun e w' => OutA w.heap.size w' (partR A.d l b) e ∧ Below w.heap.size w w' := by
  have hsn := hA.s.len
  have hln := hA.l.len
  have htn := hA.t.len
  have hnn := hl.len
  have hsp := hg.smp.span
  have hlb := lap_bd hg
  have hst := inB_iff.1 hg.head.2.2.1
  obtain ⟨g4, g5, g6⟩ := hg.head.2.2.2
  dsimp only [ActV.d] at hlb hst g4 g5 g6 hsp
  have hlo := back_lo hat hby
  refine enterQ (N := 52) (C := fun _ => True) (H := []) (B := w.heap.size) (args := [_, _, _]) Try.func64 rfl rfl rfl (Nat.le_refl _) (Sat.nil _ _) fun Q hQ => ?_
  refine wp_seq' fun K1 hK1 => ?_
  refine wp_reg ?_
  refine ol_box 3 rfl rfl rfl fun b3 => ?_
  refine ol_alloc 6 z26 rfl fun b6 => ?_
  refine ol_r (r_assign rfl) rfl ?_
  refine ol_nil (to_k0 (fun _ _ h => h) (hK1 _ _ _ _ _ ?_))
  clear hK1
  refine wp_seq' fun K2 hK2 => ?_
  refine wp_reg ?_
  refine ol_r (r_lda (id := 3) (n := 6) rfl rfl rfl ag26) rfl ?_
  refine ol_call rfl rfl cb48 rfl (fun w1 hb1 hs1 hB1 => ?_)
  refine Calls.mono (record_Clone A _ (hA.at hb1 hB1) (by omega) (by omega) (by omega)) ?_
  rintro e w2 ⟨sa, sn, sc, la, ln, lc, ta, tn, tc, rfl, hb2, hs2⟩
  refine After.more rfl hb1 hs1 hB1 hb2 hs2 ?_
  clear hs2 hb2 hB1 hs1 hb1 w2 w1
  refine ol_alloc 8 z26 rfl fun b8 => ?_
  refine ol_store (id := 8) rfl rfl rfl rfl sz26 rfl rfl (by first | decide | exact Nat.zero_lt_succ _ | simp) ?_
  refine ol_nil (to_k0 (fun _ _ h => h) (hK2 _ _ _ _ _ ?_))
  clear hK2
  refine wp_seq' fun K3 hK3 => ?_
  refine wp_reg ?_
  refine ol_r (r_fa (o' := 3) rfl fl26_3 rfl) rfl ?_
  refine ol_store (id := 8) rfl rfl rfl rfl sz22 rfl rfl (by first | decide | exact Nat.zero_lt_succ _ | simp) ?_
  refine ol_nil (to_k0 (fun _ _ h => h) (hK3 _ _ _ _ _ ?_))
  clear hK3
  refine wp_seq' fun K4 hK4 => ?_
  refine wp_seq' fun K5 hK5 => ?_
  refine wp_reg ?_
  refine ol_nilrow 60 28 7 ?_
  refine ol_r (r_move rfl) rfl ?_
  refine ol_r (r_len rfl sl22) rfl ?_
  refine ol_r (r_move rfl) rfl ?_
  refine ol_nil (to_k0 (fun _ _ h => h) (hK5 _ _ _ _ _ ?_))
  clear hK5
  refine wp_block' ?_
  apply wp_loopM (σ := Nat × Option Addr × Nat) (fun s => s.1 ≤ l.length) (fun s => [(17, .int .i64 s.1)]) [(2, _), (3, _), (6, _), (7, _), (8, _), (15, _), (16, _)] (fun s => [(8, .blk b8 [(0, .string A.name), (1, .int .i64 A.sport), (2, .int .i64 A.start), (3, .slice s.2.1 s.1 s.2.2), (4, .slice la ln lc), (5, .slice ta tn tc)] 26), (60, .row s.2.1 s.1 s.2.2 (encSmp.enc (backS b (l.take s.1))) 28 7)]) [(3, _), (6, _), (1001, _), (1002, _), (1003, _)] (fun s => l.length - s.1) ((0, none, 0))
  ·try dsimp only
   exact Nat.zero_le _
  ·exact (sub_cons rfl sub_nil)
  ·exact (sub_cons rfl (sub_cons rfl (sub_cons rfl (sub_cons rfl (sub_cons rfl (sub_cons rfl (sub_cons rfl sub_nil)))))))
  ·exact (subH_blk rfl (sub_cons rfl (sub_cons rfl (sub_cons rfl (sub_cons rfl (sub_cons rfl (sub_cons rfl sub_nil)))))) (subH_row rfl (by dsimp only; rfl) subH_nil))
  ·exact (subH_same rfl (subH_same rfl (subH_same rfl (subH_same rfl (subH_same rfl subH_nil)))))
  ·rintro ⟨k, oa, oc⟩ hk
   dsimp only at hk ⊢
   intro K6 hK6
   refine wp_seq' fun K7 hK7 => ?_
   refine wp_reg ?_
   refine ol_r (r_lss rfl rfl) rfl ?_
   refine ol_nil (to_k0 (fun _ _ h => h) (hK7 _ _ _ _ _ ?_))
   clear hK7
   refine wp_seq' fun K8 hK8 => ?_
   refine wp_condD rfl (fun hc18 => ?_) (fun hc18 => ?_)
   ·refine wp_skip' (to_k0 (fun _ _ h => h) (hK8 _ _ _ _ _ ?_))
    clear hK8
    refine wp_seq' fun K9 hK9 => ?_
    refine wp_block' ?_
    refine wp_seq' fun K10 hK10 => ?_
    refine wp_reg ?_
    refine ol_ixr hl rfl rfl sl22 (by omega) rfl fun x19 hx19 => ?_
    try simp only [Int.toNat_natCast] at hx19
    refine ol_r (r_ldw rfl (fun w1 hb1 hs1 hB1 => Rd.loads hl ty28 hx19 hb1)) rfl ?_
    refine ol_alloc 10 z28 rfl fun b10 => ?_
    refine ol_store (id := 10) rfl rfl rfl rfl sz28 rfl rfl (by first | decide | exact Nat.zero_lt_succ _ | simp) ?_
    refine ol_nil (to_k0 (fun _ _ h => h) (hK10 _ _ _ _ _ ?_))
    clear hK10
    refine wp_seq' fun K11 hK11 => ?_
    refine wp_reg ?_
    refine ol_r (r_fa (o' := 0) rfl fl28_0 rfl) rfl ?_
    refine ol_r (r_ld (id := 10) rfl rfl rfl sc3) rfl ?_
    refine ol_r (r_move rfl) rfl ?_
    have hxa := hat _ (List.mem_of_getElem? hx19)
    refine ol_r (r_sub rfl rfl (by omega)) rfl ?_
    refine ol_r (r_fa (o' := 0) rfl fl28_0 rfl) rfl ?_
    refine ol_store (id := 10) rfl rfl rfl rfl sz3 rfl rfl (by first | decide | exact Nat.zero_lt_succ _ | simp) ?_
    refine ol_nil (to_k0 (fun _ _ h => h) (hK11 _ _ _ _ _ ?_))
    clear hK11
    refine wp_reg ?_
    refine ol_r (r_fa (o' := 3) rfl fl26_3 rfl) rfl ?_
    refine ol_r (r_ld (id := 8) rfl rfl rfl sc22) rfl ?_
    refine ol_r (r_lda (id := 10) (n := 7) rfl rfl rfl ag28) rfl ?_
    refine ol_bs1 29 rfl rfl rw22 rfl rfl rfl fun a29 => ?_
    refine ol_append1 (id := 60) (id2 := 29) rfl rfl rfl rfl rfl rw22 (by omega) rfl fun a30 c30 => ?_
    refine ol_r (r_fa (o' := 3) rfl fl26_3 rfl) rfl ?_
    refine ol_store (id := 8) rfl rfl rfl rfl sz22 rfl rfl (by first | decide | exact Nat.zero_lt_succ _ | simp) ?_
    refine ol_nil (to_k0 (fun _ _ h => h) (hK9 _ _ _ _ _ ?_))
    clear hK9
    refine wp_reg ?_
    refine ol_r (r_add rfl rfl (by omega)) rfl ?_
    refine ol_r (r_move rfl) rfl ?_
    refine ol_nil (to_k0 (fun _ _ h => h) (hK6 ((k + 1, _, _)) _ _ ?_ ?_ (sub_cons rfl sub_nil) (sub_cons rfl (sub_cons rfl (sub_cons rfl (sub_cons rfl (sub_cons rfl (sub_cons rfl (sub_cons rfl sub_nil))))))) (by exact (subH_blk rfl (sub_cons rfl (sub_cons rfl (sub_cons rfl (sub_cons rfl (sub_cons rfl (sub_cons rfl sub_nil)))))) (subH_row rfl (by dsimp only; (rw [backS_succ hx19, Enc.enc_append]; rfl)) subH_nil))) (subH_same rfl (subH_same rfl (subH_same rfl (subH_same rfl (subH_same rfl subH_nil)))))))
    ·try dsimp only
     omega
    ·try dsimp only
     omega
   ·refine wp_exit' (to_k0 (fun _ _ h => h) (hK4 _ _ _ _ _ ?_))
    clear hK4
    refine wp_seq' fun K12 hK12 => ?_
    refine wp_reg ?_
    refine ol_r (r_fa (o' := 2) rfl fl26_2 rfl) rfl ?_
    refine ol_r (r_ld (id := 8) rfl rfl rfl sc3) rfl ?_
    refine ol_r (r_move rfl) rfl ?_
    have hkl : k = l.length := by omega
    subst hkl
    rw [List.take_of_length_le (Nat.le_refl _)]
    refine ol_r (r_add rfl rfl (by omega)) rfl ?_
    refine ol_r (r_fa (o' := 2) rfl fl26_2 rfl) rfl ?_
    refine ol_store (id := 8) rfl rfl rfl rfl sz3 rfl rfl (by first | decide | exact Nat.zero_lt_succ _ | simp) ?_
    refine ol_nil (to_k0 (fun _ _ h => h) (hK12 _ _ _ _ _ ?_))
    clear hK12
    refine wp_seq' fun K13 hK13 => ?_
    refine wp_rega [(999, [(3, _), (6, _), (60, _), (1001, _), (1002, _), (1003, _)]), (7, [(8, _)])] (by kernel_rfl) ⟨.inr (subH_same rfl (subH_same rfl (subH_same rfl (subH_same rfl (subH_same rfl (subH_same rfl subH_nil)))))), ⟨.inr (subH_same rfl subH_nil), trivial⟩⟩ ?_
    refine aq_r 0 999 rfl (by kernel_rfl) (by kernel_rfl) (by kernel_rfl) (.head _) (by kernel_rfl) (by kernel_rfl) rfl (r_fa (o' := 4) rfl fl26_4 rfl) ?_
    refine aq_r 1 999 rfl (by kernel_rfl) (by kernel_rfl) (by kernel_rfl) (.head _) (by kernel_rfl) (by kernel_rfl) rfl (r_ld (id := 3) rfl rfl rfl sc23) ?_
    refine aq_r 2 999 rfl (by kernel_rfl) (by kernel_rfl) (by kernel_rfl) (.head _) (by kernel_rfl) (by kernel_rfl) rfl (r_move rfl) ?_
    refine aq_r 3 7 rfl (by kernel_rfl) (by kernel_rfl) (by kernel_rfl) (.tail _ (.head _)) (by kernel_rfl) (by kernel_rfl) rfl (r_lda (id := 8) (n := 6) rfl rfl rfl ag26) ?_
    refine aq_one (i := 4) (by kernel_rfl) rfl fun K14 hK14 => ?_
    refine ol_call rfl rfl cb42 rfl (fun w1 hb1 hs1 hB1 => Calls.mono (record_Span ⟨A.name, A.sport, A.start + b, oa, l.length, oc, la, ln, lc, ta, tn, tc, backS b l, A.ls, A.ts⟩ _ ⟨Sat.rd hs1 (id := 60) rfl rfl, Sat.rd hs1 (id := 1002) rfl rfl, Sat.rd hs1 (id := 1003) rfl rfl, hA.nm, hA.lm, hA.tm, hlo⟩) ?_)
    rintro e w2 ⟨rfl, hb2⟩
    refine After.below rfl hb1 hs1 hB1 hb2 ?_
    clear hb2 hB1 hs1 hb1 w2 w1
    refine ol_nil (to_k0 (fun _ _ h => h) (hK14 _ _ ⟨.inr (by repeat' first | exact subH_nil | refine subH_same rfl ?_ | (refine subH_blk rfl (by repeat' first | exact sub_nil | refine sub_cons rfl ?_) ?_)), ⟨.inr (by repeat' first | exact subH_nil | refine subH_same rfl ?_ | (refine subH_blk rfl (by repeat' first | exact sub_nil | refine sub_cons rfl ?_) ?_)), trivial⟩⟩ ?_))
    clear hK14
    refine aq_one (i := 5) (by kernel_rfl) rfl fun K15 hK15 => ?_
    refine ol_call rfl rfl cb110 rfl (fun w1 hb1 hs1 hB1 => Calls.mono (track_moved _ _ _ A.ls b _ _ (hA.l.at hb1 hB1) (by omega) (fun x hx => by have := hlb x hx; omega)) ?_)
    rintro e w2 ⟨a43, n43, c43, rfl, hf43⟩
    refine After.fresh (id := 43) rfl hb1 hs1 hB1 hf43 ?_
    have hl43 := hf43.len; clear hf43 hB1 hs1 hb1 w2 w1
    refine ol_nil (to_k0 (fun _ _ h => h) (hK15 _ _ ⟨.inr (by repeat' first | exact subH_nil | refine subH_same rfl ?_ | (refine subH_blk rfl (by repeat' first | exact sub_nil | refine sub_cons rfl ?_) ?_)), ⟨.inr (by repeat' first | exact subH_nil | refine subH_same rfl ?_ | (refine subH_blk rfl (by repeat' first | exact sub_nil | refine sub_cons rfl ?_) ?_)), trivial⟩⟩ ?_))
    clear hK15
    refine aq_r 6 999 rfl (by kernel_rfl) (by kernel_rfl) (by kernel_rfl) (.head _) (by kernel_rfl) (by kernel_rfl) rfl (r_fa (o' := 4) rfl fl26_4 rfl) ?_
    refine aq_one (i := 7) (by kernel_rfl) rfl fun K16 hK16 => ?_
    refine ol_store (id := 8) rfl rfl rfl rfl sz23 rfl rfl (by first | decide | exact Nat.zero_lt_succ _ | simp) ?_
    refine ol_nil (to_k0 (fun _ _ h => h) (hK16 _ _ ⟨.inr (by repeat' first | exact subH_nil | refine subH_same rfl ?_ | (refine subH_blk rfl (by repeat' first | exact sub_nil | refine sub_cons rfl ?_) ?_)), ⟨.inl (by kernel_rfl), trivial⟩⟩ ?_))
    clear hK16
    refine aq_done (by kernel_rfl) ?_
    refine (to_k0 (fun _ _ h => h) (hK13 _ _ _ _ _ ?_))
    clear hK13
    refine wp_seq' fun K17 hK17 => ?_
    refine wp_seq' fun K18 hK18 => ?_
    refine wp_reg ?_
    refine ol_r (r_lda (id := 8) (n := 6) rfl rfl rfl ag26) rfl ?_
    refine ol_call rfl rfl cb40 rfl (fun w1 hb1 hs1 hB1 => Calls.mono (record_Check ⟨A.name, A.sport, A.start + b, oa, l.length, oc, a43, n43, c43, ta, tn, tc, backS b l, backL b (spanL (backS b l)) A.ls, A.ts⟩ _ ⟨Sat.rd hs1 (id := 60) rfl rfl, Sat.rd hs1 (id := 43) rfl rfl, Sat.rd hs1 (id := 1003) rfl rfl, hA.nm, back_lm hA.lm, hA.tm, hlo⟩) ?_)
    rintro e w2 ⟨rfl, hb2⟩
    refine After.below rfl hb1 hs1 hB1 hb2 ?_
    clear hb2 hB1 hs1 hb1 w2 w1
    refine ol_r (r_assign rfl) rfl ?_
    refine ol_nil (to_k0 (fun _ _ h => h) (hK18 _ _ _ _ _ ?_))
    clear hK18
    refine wp_seq' fun K19 hK19 => ?_
    refine wp_reg ?_
    refine ol_r (r_move rfl) rfl ?_
    refine ol_r (r_neq rfl rfl) rfl ?_
    refine ol_nil (to_k0 (fun _ _ h => h) (hK19 _ _ _ _ _ ?_))
    clear hK19
    refine wp_condD rfl (fun hc48 => ?_) (fun hc48 => ?_)
    ·refine wp_seq' fun K20 hK20 => ?_
     refine wp_reg ?_
     refine ol_r (r_build rfl (fun _ => bd26 _)) rfl ?_
     refine ol_r (r_move rfl) rfl ?_
     refine ol_store (id := 6) rfl rfl rfl rfl sz26 rfl rfl (by first | decide | exact Nat.zero_lt_succ _ | simp) ?_
     refine ol_r (r_assign rfl) rfl ?_
     refine ol_nil (to_k0 (fun _ _ h => h) (hK20 _ _ _ _ _ ?_))
     clear hK20
     refine hQ.ret (rvs2 (rv_c (id := 6) (n := 6) rfl rfl ag26 rfl) (rv_t rfl)) (fun _ _ h => h) fun w hb hs hB hkd => ?_
     have h := partR_e (a := A.d) (l := l) (b := b) hc48
     refine ⟨⟨none, 0, 0, none, 0, 0, none, 0, 0, ?_, ?_⟩, hb⟩
     · rw [h]; rfl
     · rw [h]; exact ((((Sat.nil _ _).nilRow 1003 _ _).nilRow 1002 _ _).nilRow 1001 _ _)
    ·refine wp_skip' (to_k0 (fun _ _ h => h) (hK17 _ _ _ _ _ ?_))
     clear hK17
     refine wp_seq' fun K21 hK21 => ?_
     refine wp_reg ?_
     refine ol_r (r_lda (id := 8) (n := 6) rfl rfl rfl ag26) rfl ?_
     refine ol_store (id := 6) rfl rfl rfl rfl sz26 rfl rfl (by first | decide | exact Nat.zero_lt_succ _ | simp) ?_
     refine ol_r (r_assign rfl) rfl ?_
     refine ol_nil (to_k0 (fun _ _ h => h) (hK21 _ _ _ _ _ ?_))
     clear hK21
     refine hQ.ret (rvs2 (rv_c (id := 6) (n := 6) rfl rfl ag26 rfl) (rv_t rfl)) (fun _ _ h => h) fun w hb hs hB hkd => ?_
     have h := partR_0 (a := A.d) (l := l) (b := b) hc48
     exact ⟨⟨oa, l.length, oc, a43, n43, c43, ta, tn, tc, by rw [h]; rfl, by rw [h]; exact hs.three 60 43 1003 1001 1002 1003 (by decide) (by decide) (by decide) rfl rfl rfl (Ent.le_refl _) (Ent.le_refl _) (Ent.le_refl _)⟩, hb⟩
end Go.Proofs.Ytogcclagmobkiaa
