/-
  Laps: program and reference.
-/
import Derived.Test.YtafkojlccknicaaLapsM
import Derived.Test.YtafkojlccknicaaBest
namespace Go.Proofs.Ytafkojlccknicaa
open Go Go.RowKit Hx
set_option linter.unusedVariables false
set_option linter.unusedSimpArgs false
set_option maxRecDepth 8000
theorem lap_yes {full : Nat → Bool} {span t : Nat} (h : full t = true ∨ t + 1 = span) : encLap.enc (lapsSt full span (t + 1)).1 = encLap.enc (lapsSt full span t).1 ++ encLap.cells (eLap (lapsSt full span t).2 ((t : Int) + 1)) := by
  rw [lapsSt_yes h, Enc.enc_append]; simp [Enc.enc]
theorem lap_no {full : Nat → Bool} {span t : Nat} (h : ¬(full t = true ∨ t + 1 = span)) : encLap.enc (lapsSt full span (t + 1)).1 = encLap.enc (lapsSt full span t).1 := by rw [lapsSt_no h]
theorem time_row {s span f m : Nat} {v : Int} (hs : 1 ≤ s) (hf : f % s = 0) (hlt : f < span) (hst : (lapsSt (fullT s) span f).2 = f) (hm : m = min (f + s) span) (hv : v = m) : encLap.enc (lapsSt (fullT s) span m).1 = encLap.enc (lapsSt (fullT s) span f).1 ++ encLap.cells (eLap f v) := by
  subst hv; subst hm
  rw [fullT_step hs hf hlt hst, Enc.enc_append]; simp [Enc.enc]
theorem way_step (B b8 b7 b3 : Nat) (la : Option Addr) (lc : Nat) (xs : List Int) (way g : Int) (t : Nat) (e1 : Ent) (w : World) (hB : B ≤ w.heap.size) (ht : t < xs.length) (hx : ∀ x ∈ xs, -1 ≤ x ∧ x ≤ 1000000000) (hg : -1000000 ≤ g ∧ g ≤ 1000000000)
    (hs : Sat B w [(6, e1), (100, .row la xs.length lc (encI.enc xs) 3 1), (101, .blk b8 [(0, .int .i64 g)] 3), (102, .blk b7 [(0, .slice la xs.length lc)] 22), (103, .blk b3 [(0, .int .i64 way)] 3)]) :
    Calls Try.prog 91 #[.int .i64 t, .pointer (some ⟨b8, 0, none⟩), .pointer (some ⟨b7, 0, none⟩), .pointer (some ⟨b3, 0, none⟩)] w fun e w' =>
      e = .returned (.bool (decide (¬(g + atI xs t < way)))) ∧ Below B w w' ∧ Sat B w' [(6, e1), (100, .row la xs.length lc (encI.enc xs) 3 1), (101, .blk b8 [(0, .int .i64 (if g + atI xs t < way then g + atI xs t else 0))] 3), (102, .blk b7 [(0, .slice la xs.length lc)] 22), (103, .blk b3 [(0, .int .i64 way)] 3)] ∧ B ≤ w'.heap.size ∧ Kd (fun _ => False) w w' := by
  refine enterQ (N := 15) (C := fun _ => False) (H := [(6, e1), (100, .row la xs.length lc (encI.enc xs) 3 1), (101, .blk b8 [(0, .int .i64 g)] 3), (102, .blk b7 [(0, .slice la xs.length lc)] 22), (103, .blk b3 [(0, .int .i64 way)] 3)]) (B := B) (args := [_, _, _, _]) Try.func91 rfl rfl rfl (hB) (hs) fun Q hQ => ?_
  refine wp_seq' fun K1 hK1 => ?_
  refine wp_reg ?_
  refine ol_r (r_assign rfl) rfl ?_
  refine ol_nil (to_k0 (fun _ _ h => h) (hK1 _ _ _ _ _ ?_))
  clear hK1
  refine wp_seq' fun K2 hK2 => ?_
  refine wp_seq' fun K3 hK3 => ?_
  refine wp_regt 6 (by kernel_rfl) (by kernel_rfl) ?_
  simp only [List.take_succ_cons, List.take_zero, List.drop_succ_cons, List.drop_zero]
  refine sl_r (r_ld (id := 101) rfl rfl rfl sc3) rfl ?_
  refine sl_r (r_ld (id := 102) rfl rfl rfl sc22) rfl ?_
  refine sl_r (r_move rfl) rfl ?_
  refine sl_ixo (id := 100) encI xs rfl rfl rfl rfl sl22 (by omega) (by omega) rfl fun x9 hx9 => ?_
  try simp only [Int.toNat_natCast] at hx9
  try simp only [Int.toNat_natCast] at hx9
  refine sl_r (r_ldw rfl (fun w1 hb1 hs1 hB1 => show Loads _ _ _ _ (.int .i64 x9) from ld_own (id := 100) hs1 rfl rfl ty3 hx9)) rfl ?_
  have hxb := hx _ (List.mem_of_getElem? hx9)
  have hat : atI xs t = x9 := atI_get hx9
  refine sl_r (r_add rfl rfl (by omega)) rfl ?_
  refine sl_nil ?_
  refine ol_store (id := 101) rfl rfl rfl rfl sz3 rfl rfl (by first | decide | exact Nat.zero_lt_succ _ | simp) ?_
  refine ol_nil (to_k0 (fun _ _ h => h) (hK3 _ _ _ _ _ ?_))
  clear hK3
  refine wp_seq' fun K4 hK4 => ?_
  refine wp_reg ?_
  refine ol_r (r_ld (id := 101) rfl rfl rfl sc3) rfl ?_
  refine ol_r (r_ld (id := 103) rfl rfl rfl sc3) rfl ?_
  refine ol_r (r_lss rfl rfl) rfl ?_
  refine ol_nil (to_k0 (fun _ _ h => h) (hK4 _ _ _ _ _ ?_))
  clear hK4
  first | refine wp_condD rfl (fun hc14 => ?_) (fun hc14 => ?_) | refine wp_condN rfl (fun hc14 => ?_) (fun hc14 => ?_) | refine wp_condNB rfl (fun hc14 => ?_) (fun hc14 => ?_) | refine wp_cond' rfl (fun hc14 => ?_) (fun hc14 => ?_)
  ·refine wp_seq' fun K5 hK5 => ?_
   refine wp_reg ?_
   refine ol_r (r_assign rfl) rfl ?_
   refine ol_nil (to_k0 (fun _ _ h => h) (hK5 _ _ _ _ _ ?_))
   clear hK5
   refine hQ.ret (rvs1 (rv_t rfl)) (fun _ _ h => h) fun w hb hs hB hkd => ?_
   rw [hat, if_pos hc14]
   exact ⟨by rw [decide_eq_false (by omega)], hb, hs.sub (subH_same rfl (subH_same rfl (subH_blk rfl (sub_cons rfl sub_nil) (subH_same rfl (subH_same rfl subH_nil))))), hB, hkd⟩
  ·refine wp_skip' (to_k0 (fun _ _ h => h) (hK2 _ _ _ _ _ ?_))
   clear hK2
   refine wp_seq' fun K6 hK6 => ?_
   refine wp_reg ?_
   refine ol_store (id := 101) rfl rfl rfl rfl sz3 rfl rfl (by first | decide | exact Nat.zero_lt_succ _ | simp) ?_
   refine ol_nil (to_k0 (fun _ _ h => h) (hK6 _ _ _ _ _ ?_))
   clear hK6
   refine wp_seq' fun K7 hK7 => ?_
   refine wp_reg ?_
   refine ol_r (r_assign rfl) rfl ?_
   refine ol_nil (to_k0 (fun _ _ h => h) (hK7 _ _ _ _ _ ?_))
   clear hK7
   refine hQ.ret (rvs1 (rv_t rfl)) (fun _ _ h => h) fun w hb hs hB hkd => ?_
   rw [hat, if_neg hc14]
   exact ⟨by rw [decide_eq_true hc14], hb, hs.sub (subH_same rfl (subH_same rfl (subH_blk rfl (sub_cons rfl sub_nil) (subH_same rfl (subH_same rfl subH_nil))))), hB, hkd⟩
theorem time_step (s : Int) (t b3 : Nat) (w : World) (h : Blk w.heap.size w b3 [(0, .int .i64 s)]) (hs : 1 ≤ s ∧ s ≤ 1000000) (ht : t ≤ 1000000) :
    Calls Try.prog 93 #[.int .i64 t, .pointer (some ⟨b3, 0, none⟩)] w fun e w' => e = .returned (.bool (fullT s t)) ∧ Below w.heap.size w w' := by
  refine enterQ (N := 9) (C := fun _ => True) (H := []) (B := w.heap.size) (args := [_, _]) Try.func93 rfl rfl rfl (Nat.le_refl _) (Sat.nil _ _) fun Q hQ => ?_
  refine wp_seq' fun K1 hK1 => ?_
  refine wp_reg ?_
  refine ol_r (r_assign rfl) rfl ?_
  refine ol_nil (to_k0 (fun _ _ h => h) (hK1 _ _ _ _ _ ?_))
  clear hK1
  refine wp_seq' fun K2 hK2 => ?_
  refine wp_reg ?_
  refine ol_r (r_move rfl) rfl ?_
  refine ol_r (r_add rfl rfl (by omega)) rfl ?_
  refine ol_r (r_ldw rfl (fun w1 hb1 hs1 hB1 => Blk.loads (o := 0) h hb1 sc3 rfl)) rfl ?_
  first | refine ol_r (r_rem rfl rfl (by omega)) rfl ?_ | refine ol_r (r_trem rfl rfl (by omega)) rfl ?_
  refine ol_r (r_eql rfl rfl) rfl ?_
  refine ol_r (r_assign rfl) rfl ?_
  refine ol_nil (to_k0 (fun _ _ h => h) (hK2 _ _ _ _ _ ?_))
  clear hK2
  refine hQ.ret (rvs1 (rv_t rfl)) (fun _ _ h => h) fun w hb hs hB hkd => ?_
  exact ⟨rfl, hb⟩
theorem laps_way (B b8 b7 b3 : Nat) (la : Option Addr) (lc : Nat) (xs : List Int) (way : Int) (w : World) (hB : B ≤ w.heap.size) (hl : xs.length ≤ 1000000) (hx : ∀ x ∈ xs, -1 ≤ x ∧ x ≤ 1000000000) (hw : 1 ≤ way ∧ way ≤ 1000000000)
    (hs : Sat B w [(100, .row la xs.length lc (encI.enc xs) 3 1), (101, .blk b8 [(0, .int .i64 0)] 3), (102, .blk b7 [(0, .slice la xs.length lc)] 22), (103, .blk b3 [(0, .int .i64 way)] 3)]) :
    Calls Try.prog 90 #[.int .i64 xs.length, .func (.func 91) #[] #[.pointer (some ⟨b8, 0, none⟩), .pointer (some ⟨b7, 0, none⟩), .pointer (some ⟨b3, 0, none⟩)]] w fun e w' =>
      ∃ b m k, e = .returned (.tuple #[.slice b m k, .int .i64 (manyR (lapsSt (fullW xs way) xs.length xs.length).1).2]) ∧ Below B w w' ∧ Sat B w' [(6, .row b m k (encLap.enc (manyR (lapsSt (fullW xs way) xs.length xs.length).1).1) 63 3)] ∧ B ≤ w'.heap.size ∧ Kd (fun _ => False) w w' := by
  refine enterQ (N := 36) (C := fun _ => False) (H := [(100, .row la xs.length lc (encI.enc xs) 3 1), (101, .blk b8 [(0, .int .i64 0)] 3), (102, .blk b7 [(0, .slice la xs.length lc)] 22), (103, .blk b3 [(0, .int .i64 way)] 3)]) (B := B) (args := [_, _]) Try.func90 rfl rfl rfl (hB) (hs) fun Q hQ => ?_
  refine wp_seq' fun K1 hK1 => ?_
  refine wp_reg ?_
  refine ol_r (r_assign rfl) rfl ?_
  refine ol_r (r_assign rfl) rfl ?_
  refine ol_nil (to_k0 (fun _ _ h => h) (hK1 _ _ _ _ _ ?_))
  clear hK1
  refine wp_seq' fun K2 hK2 => ?_
  refine wp_reg ?_
  refine ol_nilrow 6 63 3 ?_
  refine ol_r (r_assign rfl) rfl ?_
  refine ol_nil (to_k0 (fun _ _ h => h) (hK2 _ _ _ _ _ ?_))
  clear hK2
  refine wp_seq' fun K3 hK3 => ?_
  refine wp_reg ?_
  refine ol_r (r_assign rfl) rfl ?_
  refine ol_nil (to_k0 (fun _ _ h => h) (hK3 _ _ _ _ _ ?_))
  clear hK3
  refine wp_seq' fun K4 hK4 => ?_
  refine wp_seq' fun K5 hK5 => ?_
  refine wp_reg ?_
  refine ol_r (r_move rfl) rfl ?_
  refine ol_r (r_move rfl) rfl ?_
  refine ol_nil (to_k0 (fun _ _ h => h) (hK5 _ _ _ _ _ ?_))
  clear hK5
  refine wp_block' ?_
  apply wp_loopM (σ := Nat × Int × Nat × Option Addr × Nat × Nat) (fun s => s.1 ≤ xs.length ∧ s.2.1 = goneW xs way s.1 ∧ (lapsSt (fullW xs way) (xs.length) s.1).1.length = s.2.2.1 ∧ (lapsSt (fullW xs way) (xs.length) s.1).2 = s.2.2.2.2.2) (fun s => [(10, .int .i64 s.1), (6, .slice s.2.2.2.1 s.2.2.1 s.2.2.2.2.1), (7, .int .i64 s.2.2.2.2.2)]) [(0, _), (1, _), (4, _), (5, _), (9, _)] (fun s => [(6, .row s.2.2.2.1 s.2.2.1 s.2.2.2.2.1 (encLap.enc (lapsSt (fullW xs way) (xs.length) s.1).1) 63 3), (101, .blk b8 [(0, .int .i64 s.2.1)] 3)]) [(100, _), (102, _), (103, _)] (fun s => xs.length - s.1) ((0, 0, 0, none, 0, 0))
  ·try dsimp only
   exact ⟨Nat.zero_le _, rfl, rfl, rfl⟩
  ·exact (sub_cons rfl (sub_cons rfl (sub_cons rfl sub_nil)))
  ·exact (sub_cons rfl (sub_cons rfl (sub_cons rfl (sub_cons rfl (sub_cons rfl sub_nil)))))
  ·exact (subH_row rfl (by first | (dsimp only; rfl; done) | (rfl; done) | (dsimp only; done)) (subH_blk rfl (sub_cons rfl sub_nil) subH_nil))
  ·exact (subH_same rfl (subH_same rfl (subH_same rfl subH_nil)))
  ·rintro ⟨t, g, cnt, oa, oc, f⟩ ⟨ht, hg, hcnt, hf⟩
   dsimp only at hg
   subst hg
   dsimp only at ht hcnt hf ⊢
   have hcl := lapsSt_len (full := fullW xs way) (span := xs.length) t
   have hfl := lapsSt_from (full := fullW xs way) (span := xs.length) t
   subst hcnt
   subst hf
   intro K6 hK6
   refine wp_seq' fun K7 hK7 => ?_
   refine wp_reg ?_
   refine ol_r (r_lss rfl rfl) rfl ?_
   refine ol_nil (to_k0 (fun _ _ h => h) (hK7 _ _ _ _ _ ?_))
   clear hK7
   refine wp_seq' fun K8 hK8 => ?_
   first | refine wp_condD rfl (fun hc11 => ?_) (fun hc11 => ?_) | refine wp_condN rfl (fun hc11 => ?_) (fun hc11 => ?_) | refine wp_condNB rfl (fun hc11 => ?_) (fun hc11 => ?_) | refine wp_cond' rfl (fun hc11 => ?_) (fun hc11 => ?_)
   ·refine wp_skip' (to_k0 (fun _ _ h => h) (hK8 _ _ _ _ _ ?_))
    clear hK8
    refine wp_seq' fun K9 hK9 => ?_
    refine wp_block' ?_
    refine wp_seq' fun K10 hK10 => ?_
    refine wp_reg ?_
    refine ol_r (r_move rfl) rfl ?_
    refine ol_r (r_assign rfl) rfl ?_
    refine ol_nil (to_k0 (fun _ _ h => h) (hK10 _ _ _ _ _ ?_))
    clear hK10
    refine wp_seq' fun K11 hK11 => ?_
    refine wp_reg ?_
    refine ol_r (r_move rfl) rfl ?_
    refine ol_r (r_move rfl) rfl ?_
    refine ol_call rfl rfl cb91 rfl (fun w1 hb1 hs1 hB1 => ?_)
    have hgb := goneW_bd hw (fun x h => (hx x h).1) t
    refine Calls.mono (way_step B b8 b7 b3 la lc xs way _ t _ _ hB1 (by omega) hx (by omega) (hs1.sub (subH_same rfl (subH_same rfl (subH_same rfl (subH_same rfl (subH_same rfl subH_nil))))))) ?_
    rintro e w2 ⟨rfl, hb2, hs2, hB2, hk2⟩
    refine After.sat rfl hb1 hb2 hs2 hB2 (hk2.imp fun _ h => h.elim) ?_
    clear hk2 hs2 hb2 hB2 hB1 hs1 hb1 w2 w1
    refine ol_r (r_move rfl) rfl ?_
    refine ol_split (d := 16) rfl (fun hs16 => ?_) (fun hs16 => ?_)
    ·have phs16 := hs16; try simp only [decide_eq_true_eq, decide_eq_false_iff_not, Bool.not_eq_true', Bool.not_eq_false', Bool.not_true, Bool.not_false] at phs16
     refine ol_s rfl rfl hs16 rfl ?_
     refine ol_s rfl rfl hs16 rfl ?_
     refine ol_s rfl rfl hs16 rfl ?_
     refine ol_s rfl rfl hs16 rfl ?_
     refine ol_r (r_pickT rfl hs16 rfl) rfl ?_
     refine ol_nil (to_k0 (fun _ _ h => h) (hK11 _ _ _ _ _ ?_))
     clear hK11
     refine wp_condT rfl ?_
     refine wp_seq' fun K12 hK12 => ?_
     refine wp_reg ?_
     refine ol_r (r_move rfl) rfl ?_
     refine ol_r (r_move rfl) rfl ?_
     refine ol_r (r_move rfl) rfl ?_
     refine ol_r (r_add rfl rfl (by omega)) rfl ?_
     refine ol_r (r_build rfl (fun _ => bd63_0_1 _ _ _)) rfl ?_
     refine ol_bs1 27 rfl rfl rw48 rfl rfl rfl fun a27 => ?_
     refine ol_append1 (id := 6) (id2 := 27) rfl rfl rfl rfl rfl rw48 (by omega) rfl fun a28 c28 => ?_
     refine ol_r (r_assign rfl) rfl ?_
     refine ol_nil (to_k0 (fun _ _ h => h) (hK12 _ _ _ _ _ ?_))
     clear hK12
     refine wp_reg ?_
     refine ol_r (r_move rfl) rfl ?_
     refine ol_r (r_add rfl rfl (by omega)) rfl ?_
     refine ol_r (r_assign rfl) rfl ?_
     refine ol_nil (to_k0 (fun _ _ h => h) (hK9 _ _ _ _ _ ?_))
     clear hK9
     refine wp_reg ?_
     refine ol_r (r_add rfl rfl (by omega)) rfl ?_
     refine ol_r (r_move rfl) rfl ?_
     refine ol_nil (to_k0 (fun _ _ h => h) (hK6 ((t + 1, _, _, _, _, _)) _ _ ?_ ?_ (sub_cons rfl (sub_cons rfl (sub_cons rfl sub_nil))) (sub_cons rfl (sub_cons rfl (sub_cons rfl (sub_cons rfl (sub_cons rfl sub_nil))))) (by exact (subH_row rfl (by first | (dsimp only; first | rfl | exact lap_yes (.inl hs16) | exact lap_yes (.inr (by omega)) | exact lap_no (fun h => by rcases h with h | h; exact absurd (h.symm.trans hs16) (by decide); omega); done) | (first | rfl | exact lap_yes (.inl hs16) | exact lap_yes (.inr (by omega)) | exact lap_no (fun h => by rcases h with h | h; exact absurd (h.symm.trans hs16) (by decide); omega); done) | (dsimp only; done)) (subH_blk rfl (sub_cons rfl sub_nil) subH_nil))) (subH_same rfl (subH_same rfl (subH_same rfl subH_nil)))))
     ·try dsimp only
      first
        | (have hF := lapsSt_yes (span := xs.length) (.inl (show (fullW xs way) t = true from hs16))
           exact ⟨by omega, rfl, by rw [hF]; simp, by rw [hF]⟩)
        | (have hF := lapsSt_yes (full := fullW xs way) (span := xs.length) (t := t) (.inr (by omega))
           exact ⟨by omega, rfl, by rw [hF]; simp, by rw [hF]⟩)
        | (have hF := lapsSt_no (full := fullW xs way) (span := xs.length) (t := t) (fun h => by rcases h with h | h; exact absurd (h.symm.trans hs16) (by decide); omega)
           exact ⟨by omega, rfl, by rw [hF], by rw [hF]⟩)
     ·try dsimp only
      omega
    ·have phs16 := hs16; try simp only [decide_eq_true_eq, decide_eq_false_iff_not, Bool.not_eq_true', Bool.not_eq_false', Bool.not_true, Bool.not_false] at phs16
     refine ol_g rfl rfl hs16 ?_
     refine ol_r (r_move rfl) rfl ?_
     refine ol_g rfl rfl hs16 ?_
     refine ol_r (r_move rfl) rfl ?_
     refine ol_g rfl rfl hs16 ?_
     refine ol_r (r_sub rfl rfl (by omega)) rfl ?_
     refine ol_g rfl rfl hs16 ?_
     refine ol_r (r_eql rfl rfl) rfl ?_
     refine ol_r (r_pickF rfl hs16 rfl) rfl ?_
     refine ol_nil (to_k0 (fun _ _ h => h) (hK11 _ _ _ _ _ ?_))
     clear hK11
     first | refine wp_condD rfl (fun hc21 => ?_) (fun hc21 => ?_) | refine wp_condN rfl (fun hc21 => ?_) (fun hc21 => ?_) | refine wp_condNB rfl (fun hc21 => ?_) (fun hc21 => ?_) | refine wp_cond' rfl (fun hc21 => ?_) (fun hc21 => ?_)
     ·refine wp_seq' fun K13 hK13 => ?_
      refine wp_reg ?_
      refine ol_r (r_move rfl) rfl ?_
      refine ol_r (r_move rfl) rfl ?_
      refine ol_r (r_move rfl) rfl ?_
      refine ol_r (r_add rfl rfl (by omega)) rfl ?_
      refine ol_r (r_build rfl (fun _ => bd63_0_1 _ _ _)) rfl ?_
      refine ol_bs1 27 rfl rfl rw48 rfl rfl rfl fun a27 => ?_
      refine ol_append1 (id := 6) (id2 := 27) rfl rfl rfl rfl rfl rw48 (by omega) rfl fun a28 c28 => ?_
      refine ol_r (r_assign rfl) rfl ?_
      refine ol_nil (to_k0 (fun _ _ h => h) (hK13 _ _ _ _ _ ?_))
      clear hK13
      refine wp_reg ?_
      refine ol_r (r_move rfl) rfl ?_
      refine ol_r (r_add rfl rfl (by omega)) rfl ?_
      refine ol_r (r_assign rfl) rfl ?_
      refine ol_nil (to_k0 (fun _ _ h => h) (hK9 _ _ _ _ _ ?_))
      clear hK9
      refine wp_reg ?_
      refine ol_r (r_add rfl rfl (by omega)) rfl ?_
      refine ol_r (r_move rfl) rfl ?_
      refine ol_nil (to_k0 (fun _ _ h => h) (hK6 ((t + 1, _, _, _, _, _)) _ _ ?_ ?_ (sub_cons rfl (sub_cons rfl (sub_cons rfl sub_nil))) (sub_cons rfl (sub_cons rfl (sub_cons rfl (sub_cons rfl (sub_cons rfl sub_nil))))) (by exact (subH_row rfl (by first | (dsimp only; first | rfl | exact lap_yes (.inl hs16) | exact lap_yes (.inr (by omega)) | exact lap_no (fun h => by rcases h with h | h; exact absurd (h.symm.trans hs16) (by decide); omega); done) | (first | rfl | exact lap_yes (.inl hs16) | exact lap_yes (.inr (by omega)) | exact lap_no (fun h => by rcases h with h | h; exact absurd (h.symm.trans hs16) (by decide); omega); done) | (dsimp only; done)) (subH_blk rfl (sub_cons rfl sub_nil) subH_nil))) (subH_same rfl (subH_same rfl (subH_same rfl subH_nil)))))
      ·try dsimp only
       first
         | (have hF := lapsSt_yes (span := xs.length) (.inl (show (fullW xs way) t = true from hs16))
            exact ⟨by omega, rfl, by rw [hF]; simp, by rw [hF]⟩)
         | (have hF := lapsSt_yes (full := fullW xs way) (span := xs.length) (t := t) (.inr (by omega))
            exact ⟨by omega, rfl, by rw [hF]; simp, by rw [hF]⟩)
         | (have hF := lapsSt_no (full := fullW xs way) (span := xs.length) (t := t) (fun h => by rcases h with h | h; exact absurd (h.symm.trans hs16) (by decide); omega)
            exact ⟨by omega, rfl, by rw [hF], by rw [hF]⟩)
      ·try dsimp only
       omega
     ·refine wp_skip' (to_k0 (fun _ _ h => h) (hK9 _ _ _ _ _ ?_))
      clear hK9
      refine wp_reg ?_
      refine ol_r (r_add rfl rfl (by omega)) rfl ?_
      refine ol_r (r_move rfl) rfl ?_
      refine ol_nil (to_k0 (fun _ _ h => h) (hK6 ((t + 1, _, _, _, _, _)) _ _ ?_ ?_ (sub_cons rfl (sub_cons rfl (sub_cons rfl sub_nil))) (sub_cons rfl (sub_cons rfl (sub_cons rfl (sub_cons rfl (sub_cons rfl sub_nil))))) (by exact (subH_row rfl (by first | (dsimp only; first | rfl | exact lap_yes (.inl hs16) | exact lap_yes (.inr (by omega)) | exact lap_no (fun h => by rcases h with h | h; exact absurd (h.symm.trans hs16) (by decide); omega); done) | (first | rfl | exact lap_yes (.inl hs16) | exact lap_yes (.inr (by omega)) | exact lap_no (fun h => by rcases h with h | h; exact absurd (h.symm.trans hs16) (by decide); omega); done) | (dsimp only; done)) (subH_blk rfl (sub_cons rfl sub_nil) subH_nil))) (subH_same rfl (subH_same rfl (subH_same rfl subH_nil)))))
      ·try dsimp only
       first
         | (have hF := lapsSt_yes (span := xs.length) (.inl (show (fullW xs way) t = true from hs16))
            exact ⟨by omega, rfl, by rw [hF]; simp, by rw [hF]⟩)
         | (have hF := lapsSt_yes (full := fullW xs way) (span := xs.length) (t := t) (.inr (by omega))
            exact ⟨by omega, rfl, by rw [hF]; simp, by rw [hF]⟩)
         | (have hF := lapsSt_no (full := fullW xs way) (span := xs.length) (t := t) (fun h => by rcases h with h | h; exact absurd (h.symm.trans hs16) (by decide); omega)
            exact ⟨by omega, rfl, by rw [hF], by rw [hF]⟩)
      ·try dsimp only
       omega
   ·refine wp_exit' (to_k0 (fun _ _ h => h) (hK4 _ _ _ _ _ ?_))
    clear hK4
    refine wp_seq' fun K14 hK14 => ?_
    refine wp_seq' fun K15 hK15 => ?_
    refine wp_reg ?_
    refine ol_r (r_move rfl) rfl ?_
    refine ol_r (r_len rfl sl48) rfl ?_
    refine ol_r (r_gtr rfl rfl) rfl ?_
    refine ol_nil (to_k0 (fun _ _ h => h) (hK15 _ _ _ _ _ ?_))
    clear hK15
    first | refine wp_condD rfl (fun hc34 => ?_) (fun hc34 => ?_) | refine wp_condN rfl (fun hc34 => ?_) (fun hc34 => ?_) | refine wp_condNB rfl (fun hc34 => ?_) (fun hc34 => ?_) | refine wp_cond' rfl (fun hc34 => ?_) (fun hc34 => ?_)
    ·refine wp_seq' fun K16 hK16 => ?_
     refine wp_reg ?_
     refine ol_r (r_assign rfl) rfl ?_
     refine ol_r (r_assign rfl) rfl ?_
     refine ol_nil (to_k0 (fun _ _ h => h) (hK16 _ _ _ _ _ ?_))
     clear hK16
     refine hQ.ret (rvs2 (rv_t rfl) (rv_t rfl)) (fun _ _ h => h) fun w hb hs hB hkd => ?_
     have hk : t = xs.length := by omega
     subst hk
     have h := manyR_3 (l := (lapsSt (fullW xs way) xs.length xs.length).1) (by omega)
     exact ⟨none, 0, 0, by rw [h], hb, by rw [h]; exact Sat.one (hs.nilRow 6 63 3) 6 6 rfl (Ent.le_refl _), hB, hkd⟩
    ·refine wp_skip' (to_k0 (fun _ _ h => h) (hK14 _ _ _ _ _ ?_))
     clear hK14
     refine wp_seq' fun K17 hK17 => ?_
     refine wp_reg ?_
     refine ol_r (r_move rfl) rfl ?_
     refine ol_r (r_assign rfl) rfl ?_
     refine ol_r (r_assign rfl) rfl ?_
     refine ol_nil (to_k0 (fun _ _ h => h) (hK17 _ _ _ _ _ ?_))
     clear hK17
     refine hQ.ret (rvs2 (rv_t rfl) (rv_t rfl)) (fun _ _ h => h) fun w hb hs hB hkd => ?_
     have hk : t = xs.length := by omega
     subst hk
     have h := manyR_0 (l := (lapsSt (fullW xs way) xs.length xs.length).1) (by omega)
     exact ⟨_, _, _, by rw [h], hb, by rw [h]; exact Sat.one hs 6 6 rfl (Ent.le_refl _), hB, hkd⟩
theorem laps_time (sc : Int) (b3 span : Nat) (w : World) (h3 : Blk w.heap.size w b3 [(0, .int .i64 sc)]) (hs3 : 1 ≤ sc ∧ sc ≤ 1000000) (hl : span ≤ 1000000) :
    Calls Try.prog 90 #[.int .i64 span, .func (.func 93) #[] #[.pointer (some ⟨b3, 0, none⟩)]] w fun e w' =>
      ∃ b m k, e = .returned (.tuple #[.slice b m k, .int .i64 (manyR (lapsSt (fullT sc) span span).1).2]) ∧ Fresh encLap 63 w w' b m k (manyR (lapsSt (fullT sc) span span).1).1 := by
  refine enterQ (N := 36) (C := fun _ => True) (H := []) (B := w.heap.size) (args := [_, _]) Try.func90 rfl rfl rfl (Nat.le_refl _) (Sat.nil _ _) fun Q hQ => ?_
  refine wp_seq' fun K1 hK1 => ?_
  refine wp_reg ?_
  refine ol_r (r_assign rfl) rfl ?_
  refine ol_r (r_assign rfl) rfl ?_
  refine ol_nil (to_k0 (fun _ _ h => h) (hK1 _ _ _ _ _ ?_))
  clear hK1
  refine wp_seq' fun K2 hK2 => ?_
  refine wp_reg ?_
  refine ol_nilrow 6 63 3 ?_
  refine ol_r (r_assign rfl) rfl ?_
  refine ol_nil (to_k0 (fun _ _ h => h) (hK2 _ _ _ _ _ ?_))
  clear hK2
  refine wp_seq' fun K3 hK3 => ?_
  refine wp_reg ?_
  refine ol_r (r_assign rfl) rfl ?_
  refine ol_nil (to_k0 (fun _ _ h => h) (hK3 _ _ _ _ _ ?_))
  clear hK3
  refine wp_seq' fun K4 hK4 => ?_
  refine wp_seq' fun K5 hK5 => ?_
  refine wp_reg ?_
  refine ol_r (r_move rfl) rfl ?_
  refine ol_r (r_move rfl) rfl ?_
  refine ol_nil (to_k0 (fun _ _ h => h) (hK5 _ _ _ _ _ ?_))
  clear hK5
  refine wp_block' ?_
  apply wp_loopM (σ := Nat × Nat × Option Addr × Nat × Nat) (fun s => s.1 ≤ span ∧ (lapsSt (fullT sc) (span) s.1).1.length = s.2.1 ∧ (lapsSt (fullT sc) (span) s.1).2 = s.2.2.2.2) (fun s => [(10, .int .i64 s.1), (6, .slice s.2.2.1 s.2.1 s.2.2.2.1), (7, .int .i64 s.2.2.2.2)]) [(0, _), (1, _), (4, _), (5, _), (9, _)] (fun s => [(6, .row s.2.2.1 s.2.1 s.2.2.2.1 (encLap.enc (lapsSt (fullT sc) (span) s.1).1) 63 3)]) [] (fun s => span - s.1) ((0, 0, none, 0, 0))
  ·try dsimp only
   exact ⟨Nat.zero_le _, rfl, rfl⟩
  ·exact (sub_cons rfl (sub_cons rfl (sub_cons rfl sub_nil)))
  ·exact (sub_cons rfl (sub_cons rfl (sub_cons rfl (sub_cons rfl (sub_cons rfl sub_nil)))))
  ·exact (subH_row rfl (by first | (dsimp only; rfl; done) | (rfl; done) | (dsimp only; done)) subH_nil)
  ·exact subH_nil
  ·rintro ⟨t, cnt, oa, oc, f⟩ ⟨ht, hcnt, hf⟩
   dsimp only at ht hcnt hf ⊢
   have hcl := lapsSt_len (full := fullT sc) (span := span) t
   have hfl := lapsSt_from (full := fullT sc) (span := span) t
   subst hcnt
   subst hf
   intro K6 hK6
   refine wp_seq' fun K7 hK7 => ?_
   refine wp_reg ?_
   refine ol_r (r_lss rfl rfl) rfl ?_
   refine ol_nil (to_k0 (fun _ _ h => h) (hK7 _ _ _ _ _ ?_))
   clear hK7
   refine wp_seq' fun K8 hK8 => ?_
   first | refine wp_condD rfl (fun hc11 => ?_) (fun hc11 => ?_) | refine wp_condN rfl (fun hc11 => ?_) (fun hc11 => ?_) | refine wp_condNB rfl (fun hc11 => ?_) (fun hc11 => ?_) | refine wp_cond' rfl (fun hc11 => ?_) (fun hc11 => ?_)
   ·refine wp_skip' (to_k0 (fun _ _ h => h) (hK8 _ _ _ _ _ ?_))
    clear hK8
    refine wp_seq' fun K9 hK9 => ?_
    refine wp_block' ?_
    refine wp_seq' fun K10 hK10 => ?_
    refine wp_reg ?_
    refine ol_r (r_move rfl) rfl ?_
    refine ol_r (r_assign rfl) rfl ?_
    refine ol_nil (to_k0 (fun _ _ h => h) (hK10 _ _ _ _ _ ?_))
    clear hK10
    refine wp_seq' fun K11 hK11 => ?_
    refine wp_reg ?_
    refine ol_r (r_move rfl) rfl ?_
    refine ol_r (r_move rfl) rfl ?_
    refine ol_call rfl rfl cb93 rfl (fun w1 hb1 hs1 hB1 => Calls.mono (time_step sc t b3 _ (h3.at hb1 hB1) hs3 (by omega)) ?_)
    rintro e w2 ⟨rfl, hb2⟩
    refine After.below rfl hb1 hs1 hB1 hb2 ?_
    clear hb2 hB1 hs1 hb1 w2 w1
    refine ol_r (r_move rfl) rfl ?_
    refine ol_split (d := 16) rfl (fun hs16 => ?_) (fun hs16 => ?_)
    ·have phs16 := hs16; try simp only [decide_eq_true_eq, decide_eq_false_iff_not, Bool.not_eq_true', Bool.not_eq_false', Bool.not_true, Bool.not_false] at phs16
     refine ol_s rfl rfl hs16 rfl ?_
     refine ol_s rfl rfl hs16 rfl ?_
     refine ol_s rfl rfl hs16 rfl ?_
     refine ol_s rfl rfl hs16 rfl ?_
     refine ol_r (r_pickT rfl hs16 rfl) rfl ?_
     refine ol_nil (to_k0 (fun _ _ h => h) (hK11 _ _ _ _ _ ?_))
     clear hK11
     refine wp_condT rfl ?_
     refine wp_seq' fun K12 hK12 => ?_
     refine wp_reg ?_
     refine ol_r (r_move rfl) rfl ?_
     refine ol_r (r_move rfl) rfl ?_
     refine ol_r (r_move rfl) rfl ?_
     refine ol_r (r_add rfl rfl (by omega)) rfl ?_
     refine ol_r (r_build rfl (fun _ => bd63_0_1 _ _ _)) rfl ?_
     refine ol_bs1 27 rfl rfl rw48 rfl rfl rfl fun a27 => ?_
     refine ol_append1 (id := 6) (id2 := 27) rfl rfl rfl rfl rfl rw48 (by omega) rfl fun a28 c28 => ?_
     refine ol_r (r_assign rfl) rfl ?_
     refine ol_nil (to_k0 (fun _ _ h => h) (hK12 _ _ _ _ _ ?_))
     clear hK12
     refine wp_reg ?_
     refine ol_r (r_move rfl) rfl ?_
     refine ol_r (r_add rfl rfl (by omega)) rfl ?_
     refine ol_r (r_assign rfl) rfl ?_
     refine ol_nil (to_k0 (fun _ _ h => h) (hK9 _ _ _ _ _ ?_))
     clear hK9
     refine wp_reg ?_
     refine ol_r (r_add rfl rfl (by omega)) rfl ?_
     refine ol_r (r_move rfl) rfl ?_
     refine ol_nil (to_k0 (fun _ _ h => h) (hK6 ((t + 1, _, _, _, _)) _ _ ?_ ?_ (sub_cons rfl (sub_cons rfl (sub_cons rfl sub_nil))) (sub_cons rfl (sub_cons rfl (sub_cons rfl (sub_cons rfl (sub_cons rfl sub_nil))))) (by exact (subH_row rfl (by first | (dsimp only; first | rfl | exact lap_yes (.inl hs16) | exact lap_yes (.inr (by omega)) | exact lap_no (fun h => by rcases h with h | h; exact absurd (h.symm.trans hs16) (by decide); omega); done) | (first | rfl | exact lap_yes (.inl hs16) | exact lap_yes (.inr (by omega)) | exact lap_no (fun h => by rcases h with h | h; exact absurd (h.symm.trans hs16) (by decide); omega); done) | (dsimp only; done)) subH_nil)) subH_nil))
     ·try dsimp only
      first
        | (have hF := lapsSt_yes (span := span) (.inl (show (fullT sc) t = true from hs16))
           exact ⟨by omega, by rw [hF]; simp, by rw [hF]⟩)
        | (have hF := lapsSt_yes (full := fullT sc) (span := span) (t := t) (.inr (by omega))
           exact ⟨by omega, by rw [hF]; simp, by rw [hF]⟩)
        | (have hF := lapsSt_no (full := fullT sc) (span := span) (t := t) (fun h => by rcases h with h | h; exact absurd (h.symm.trans hs16) (by decide); omega)
           exact ⟨by omega, by rw [hF], by rw [hF]⟩)
     ·try dsimp only
      omega
    ·have phs16 := hs16; try simp only [decide_eq_true_eq, decide_eq_false_iff_not, Bool.not_eq_true', Bool.not_eq_false', Bool.not_true, Bool.not_false] at phs16
     refine ol_g rfl rfl hs16 ?_
     refine ol_r (r_move rfl) rfl ?_
     refine ol_g rfl rfl hs16 ?_
     refine ol_r (r_move rfl) rfl ?_
     refine ol_g rfl rfl hs16 ?_
     refine ol_r (r_sub rfl rfl (by omega)) rfl ?_
     refine ol_g rfl rfl hs16 ?_
     refine ol_r (r_eql rfl rfl) rfl ?_
     refine ol_r (r_pickF rfl hs16 rfl) rfl ?_
     refine ol_nil (to_k0 (fun _ _ h => h) (hK11 _ _ _ _ _ ?_))
     clear hK11
     first | refine wp_condD rfl (fun hc21 => ?_) (fun hc21 => ?_) | refine wp_condN rfl (fun hc21 => ?_) (fun hc21 => ?_) | refine wp_condNB rfl (fun hc21 => ?_) (fun hc21 => ?_) | refine wp_cond' rfl (fun hc21 => ?_) (fun hc21 => ?_)
     ·refine wp_seq' fun K13 hK13 => ?_
      refine wp_reg ?_
      refine ol_r (r_move rfl) rfl ?_
      refine ol_r (r_move rfl) rfl ?_
      refine ol_r (r_move rfl) rfl ?_
      refine ol_r (r_add rfl rfl (by omega)) rfl ?_
      refine ol_r (r_build rfl (fun _ => bd63_0_1 _ _ _)) rfl ?_
      refine ol_bs1 27 rfl rfl rw48 rfl rfl rfl fun a27 => ?_
      refine ol_append1 (id := 6) (id2 := 27) rfl rfl rfl rfl rfl rw48 (by omega) rfl fun a28 c28 => ?_
      refine ol_r (r_assign rfl) rfl ?_
      refine ol_nil (to_k0 (fun _ _ h => h) (hK13 _ _ _ _ _ ?_))
      clear hK13
      refine wp_reg ?_
      refine ol_r (r_move rfl) rfl ?_
      refine ol_r (r_add rfl rfl (by omega)) rfl ?_
      refine ol_r (r_assign rfl) rfl ?_
      refine ol_nil (to_k0 (fun _ _ h => h) (hK9 _ _ _ _ _ ?_))
      clear hK9
      refine wp_reg ?_
      refine ol_r (r_add rfl rfl (by omega)) rfl ?_
      refine ol_r (r_move rfl) rfl ?_
      refine ol_nil (to_k0 (fun _ _ h => h) (hK6 ((t + 1, _, _, _, _)) _ _ ?_ ?_ (sub_cons rfl (sub_cons rfl (sub_cons rfl sub_nil))) (sub_cons rfl (sub_cons rfl (sub_cons rfl (sub_cons rfl (sub_cons rfl sub_nil))))) (by exact (subH_row rfl (by first | (dsimp only; first | rfl | exact lap_yes (.inl hs16) | exact lap_yes (.inr (by omega)) | exact lap_no (fun h => by rcases h with h | h; exact absurd (h.symm.trans hs16) (by decide); omega); done) | (first | rfl | exact lap_yes (.inl hs16) | exact lap_yes (.inr (by omega)) | exact lap_no (fun h => by rcases h with h | h; exact absurd (h.symm.trans hs16) (by decide); omega); done) | (dsimp only; done)) subH_nil)) subH_nil))
      ·try dsimp only
       first
         | (have hF := lapsSt_yes (span := span) (.inl (show (fullT sc) t = true from hs16))
            exact ⟨by omega, by rw [hF]; simp, by rw [hF]⟩)
         | (have hF := lapsSt_yes (full := fullT sc) (span := span) (t := t) (.inr (by omega))
            exact ⟨by omega, by rw [hF]; simp, by rw [hF]⟩)
         | (have hF := lapsSt_no (full := fullT sc) (span := span) (t := t) (fun h => by rcases h with h | h; exact absurd (h.symm.trans hs16) (by decide); omega)
            exact ⟨by omega, by rw [hF], by rw [hF]⟩)
      ·try dsimp only
       omega
     ·refine wp_skip' (to_k0 (fun _ _ h => h) (hK9 _ _ _ _ _ ?_))
      clear hK9
      refine wp_reg ?_
      refine ol_r (r_add rfl rfl (by omega)) rfl ?_
      refine ol_r (r_move rfl) rfl ?_
      refine ol_nil (to_k0 (fun _ _ h => h) (hK6 ((t + 1, _, _, _, _)) _ _ ?_ ?_ (sub_cons rfl (sub_cons rfl (sub_cons rfl sub_nil))) (sub_cons rfl (sub_cons rfl (sub_cons rfl (sub_cons rfl (sub_cons rfl sub_nil))))) (by exact (subH_row rfl (by first | (dsimp only; first | rfl | exact lap_yes (.inl hs16) | exact lap_yes (.inr (by omega)) | exact lap_no (fun h => by rcases h with h | h; exact absurd (h.symm.trans hs16) (by decide); omega); done) | (first | rfl | exact lap_yes (.inl hs16) | exact lap_yes (.inr (by omega)) | exact lap_no (fun h => by rcases h with h | h; exact absurd (h.symm.trans hs16) (by decide); omega); done) | (dsimp only; done)) subH_nil)) subH_nil))
      ·try dsimp only
       first
         | (have hF := lapsSt_yes (span := span) (.inl (show (fullT sc) t = true from hs16))
            exact ⟨by omega, by rw [hF]; simp, by rw [hF]⟩)
         | (have hF := lapsSt_yes (full := fullT sc) (span := span) (t := t) (.inr (by omega))
            exact ⟨by omega, by rw [hF]; simp, by rw [hF]⟩)
         | (have hF := lapsSt_no (full := fullT sc) (span := span) (t := t) (fun h => by rcases h with h | h; exact absurd (h.symm.trans hs16) (by decide); omega)
            exact ⟨by omega, by rw [hF], by rw [hF]⟩)
      ·try dsimp only
       omega
   ·refine wp_exit' (to_k0 (fun _ _ h => h) (hK4 _ _ _ _ _ ?_))
    clear hK4
    refine wp_seq' fun K14 hK14 => ?_
    refine wp_seq' fun K15 hK15 => ?_
    refine wp_reg ?_
    refine ol_r (r_move rfl) rfl ?_
    refine ol_r (r_len rfl sl48) rfl ?_
    refine ol_r (r_gtr rfl rfl) rfl ?_
    refine ol_nil (to_k0 (fun _ _ h => h) (hK15 _ _ _ _ _ ?_))
    clear hK15
    first | refine wp_condD rfl (fun hc34 => ?_) (fun hc34 => ?_) | refine wp_condN rfl (fun hc34 => ?_) (fun hc34 => ?_) | refine wp_condNB rfl (fun hc34 => ?_) (fun hc34 => ?_) | refine wp_cond' rfl (fun hc34 => ?_) (fun hc34 => ?_)
    ·refine wp_seq' fun K16 hK16 => ?_
     refine wp_reg ?_
     refine ol_r (r_assign rfl) rfl ?_
     refine ol_r (r_assign rfl) rfl ?_
     refine ol_nil (to_k0 (fun _ _ h => h) (hK16 _ _ _ _ _ ?_))
     clear hK16
     refine hQ.ret (rvs2 (rv_t rfl) (rv_t rfl)) (fun _ _ h => h) fun w hb hs hB hkd => ?_
     have hk : t = span := by omega
     subst hk
     have h := manyR_3 (l := (lapsSt (fullT sc) t t).1) (by omega)
     exact ⟨none, 0, 0, by rw [h], hb, by rw [h]; exact (hs.nilRow 6 63 3).ok 6 _ rfl⟩
    ·refine wp_skip' (to_k0 (fun _ _ h => h) (hK14 _ _ _ _ _ ?_))
     clear hK14
     refine wp_seq' fun K17 hK17 => ?_
     refine wp_reg ?_
     refine ol_r (r_move rfl) rfl ?_
     refine ol_r (r_assign rfl) rfl ?_
     refine ol_r (r_assign rfl) rfl ?_
     refine ol_nil (to_k0 (fun _ _ h => h) (hK17 _ _ _ _ _ ?_))
     clear hK17
     refine hQ.ret (rvs2 (rv_t rfl) (rv_t rfl)) (fun _ _ h => h) fun w hb hs hB hkd => ?_
     have hk : t = span := by omega
     subst hk
     have h := manyR_0 (l := (lapsSt (fullT sc) t t).1) (by omega)
     exact ⟨_, _, _, by rw [h], hb, by rw [h]; exact hs.ok 6 _ rfl⟩
end Go.Proofs.Ytafkojlccknicaa
