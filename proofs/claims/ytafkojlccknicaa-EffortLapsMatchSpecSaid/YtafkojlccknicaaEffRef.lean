/-
  Streams of an activity: the reference, and the walk of EffortStreamsMatchSpec.
-/
import Derived.Test.YtafkojlccknicaaEffStr
import Derived.Test.YtafkojlccknicaaBest
namespace Go.Proofs.Ytafkojlccknicaa
open Go Go.RowKit Hx
set_option linter.unusedVariables false
set_option linter.unusedSimpArgs false
set_option maxRecDepth 8000
theorem ref4_root (n : Int) (w : World) (hn : 0 ≤ n ∧ n ≤ 9223372036854775807) : Calls Try.prog 125 #[.int .i64 n] w fun e w' => e = .returned (.int .i64 (rootI n)) ∧ Below w.heap.size w w' := by
  refine enterQ (N := 23) (C := fun _ => True) (H := []) (B := w.heap.size) (args := [_]) Try.func125 rfl rfl rfl (Nat.le_refl _) (Sat.nil _ _) fun Q hQ => ?_
  refine wp_seq' fun K1 hK1 => ?_
  refine wp_reg ?_
  refine ol_r (r_assign rfl) rfl ?_
  refine ol_nil (to_k0 (fun _ _ h => h) (hK1 _ _ _ _ _ ?_))
  clear hK1
  refine wp_seq' fun K2 hK2 => ?_
  refine wp_reg ?_
  refine ol_r (r_assign rfl) rfl ?_
  refine ol_r (r_assign rfl) rfl ?_
  refine ol_nil (to_k0 (fun _ _ h => h) (hK2 _ _ _ _ _ ?_))
  clear hK2
  refine wp_seq' fun K3 hK3 => ?_
  refine wp_block' ?_
  apply wp_loopM (σ := Int × Int) (fun s => 0 ≤ s.1 ∧ s.1 ≤ s.2 ∧ s.2 ≤ 3037000499 ∧ s.1 * s.1 ≤ n ∧ n < (s.2 + 1) * (s.2 + 1)) (fun s => [(3, .int .i64 s.1), (4, .int .i64 s.2)]) [(0, _), (2, _)] (fun s => []) [] (fun s => (s.2 - s.1).toNat) ((0, 3037000499))
  ·try dsimp only
   exact ⟨by omega, by omega, by omega, by omega, by omega⟩
  ·exact (sub_cons rfl (sub_cons rfl sub_nil))
  ·exact (sub_cons rfl (sub_cons rfl sub_nil))
  ·exact subH_nil
  ·exact subH_nil
  ·rintro ⟨l, h⟩ ⟨h1, h2, h3, h4, h5⟩
   dsimp only at h1 h2 h3 h4 h5 ⊢
   intro K4 hK4
   refine wp_seq' fun K5 hK5 => ?_
   refine wp_seq' fun K6 hK6 => ?_
   refine wp_reg ?_
   refine ol_r (r_move rfl) rfl ?_
   refine ol_r (r_move rfl) rfl ?_
   refine ol_r (r_lss rfl rfl) rfl ?_
   refine ol_nil (to_k0 (fun _ _ h => h) (hK6 _ _ _ _ _ ?_))
   clear hK6
   first | refine wp_condD rfl (fun hc8 => ?_) (fun hc8 => ?_) | refine wp_condN rfl (fun hc8 => ?_) (fun hc8 => ?_) | refine wp_condNB rfl (fun hc8 => ?_) (fun hc8 => ?_) | refine wp_cond' rfl (fun hc8 => ?_) (fun hc8 => ?_)
   ·refine wp_skip' (to_k0 (fun _ _ h => h) (hK5 _ _ _ _ _ ?_))
    clear hK5
    refine wp_block' ?_
    refine wp_seq' fun K7 hK7 => ?_
    refine wp_reg ?_
    refine ol_r (r_move rfl) rfl ?_
    refine ol_r (r_move rfl) rfl ?_
    refine ol_r (r_add rfl rfl (by omega)) rfl ?_
    refine ol_r (r_add rfl rfl (by omega)) rfl ?_
    first | refine ol_r (r_quo rfl rfl (by omega)) rfl ?_ | refine ol_r (r_tquo rfl rfl (by omega)) rfl ?_
    refine ol_r (r_assign rfl) rfl ?_
    refine ol_nil (to_k0 (fun _ _ h => h) (hK7 _ _ _ _ _ ?_))
    clear hK7
    refine wp_seq' fun K8 hK8 => ?_
    refine wp_reg ?_
    refine ol_r (r_move rfl) rfl ?_
    refine ol_r (r_move rfl) rfl ?_
    have ht := mul_bd (a := (l + h + 1) / 2) (b := (l + h + 1) / 2) (A := 3037000499) (B := 3037000499) (by omega) (by omega) (by omega) (by omega)
    refine ol_r (r_mul rfl rfl (by omega)) rfl ?_
    refine ol_r (r_move rfl) rfl ?_
    refine ol_r (r_leq rfl rfl) rfl ?_
    refine ol_nil (to_k0 (fun _ _ h => h) (hK8 _ _ _ _ _ ?_))
    clear hK8
    first | refine wp_condD rfl (fun hc18 => ?_) (fun hc18 => ?_) | refine wp_condN rfl (fun hc18 => ?_) (fun hc18 => ?_) | refine wp_condNB rfl (fun hc18 => ?_) (fun hc18 => ?_) | refine wp_cond' rfl (fun hc18 => ?_) (fun hc18 => ?_)
    ·refine wp_reg ?_
     refine ol_r (r_move rfl) rfl ?_
     refine ol_r (r_assign rfl) rfl ?_
     refine ol_nil (to_k0 (fun _ _ h => h) (hK4 ((_, _)) _ _ ?_ ?_ (sub_cons rfl (sub_cons rfl sub_nil)) (sub_cons rfl (sub_cons rfl sub_nil)) (by exact subH_nil) subH_nil))
     ·try dsimp only
      first
        | exact ⟨by omega, by omega, h3, by omega, h5⟩
        | exact ⟨h1, by omega, by omega, h4, by rw [show (l + h + 1) / 2 - 1 + 1 = (l + h + 1) / 2 by omega]; omega⟩
     ·try dsimp only
      omega
    ·refine wp_reg ?_
     refine ol_r (r_move rfl) rfl ?_
     refine ol_r (r_sub rfl rfl (by omega)) rfl ?_
     refine ol_r (r_assign rfl) rfl ?_
     refine ol_nil (to_k0 (fun _ _ h => h) (hK4 ((_, _)) _ _ ?_ ?_ (sub_cons rfl (sub_cons rfl sub_nil)) (sub_cons rfl (sub_cons rfl sub_nil)) (by exact subH_nil) subH_nil))
     ·try dsimp only
      first
        | exact ⟨by omega, by omega, h3, by omega, h5⟩
        | exact ⟨h1, by omega, by omega, h4, by rw [show (l + h + 1) / 2 - 1 + 1 = (l + h + 1) / 2 by omega]; omega⟩
     ·try dsimp only
      omega
   ·refine wp_exit' (to_k0 (fun _ _ h => h) (hK3 _ _ _ _ _ ?_))
    clear hK3
    refine wp_seq' fun K9 hK9 => ?_
    refine wp_reg ?_
    refine ol_r (r_move rfl) rfl ?_
    refine ol_r (r_assign rfl) rfl ?_
    refine ol_nil (to_k0 (fun _ _ h => h) (hK9 _ _ _ _ _ ?_))
    clear hK9
    refine hQ.ret (rvs1 (rv_t rfl)) (fun _ _ h => h) fun w hb hs hB hkd => ?_
    have hlh : l = h := by omega
    subst hlh
    exact ⟨by rw [rootI_eq (r := l) ⟨h1, h4, h5⟩], hb⟩
theorem ref4_rootD (p q : SmpR) (w : World) (h : 0 ≤ sqD p q ∧ sqD p q ≤ 80000000000000000) : Calls Try.prog 125 #[.int .i64 ((q.x - p.x) * (q.x - p.x) + (q.y - p.y) * (q.y - p.y))] w fun e w' => e = .returned (.int .i64 (lenD p q)) ∧ Below w.heap.size w w' :=
  ref4_root (sqD p q) w (by omega)
theorem lenV_6 {kind : Int} {p q : SmpR} (h : kind = 5) : lenV kind p q = max 0 (q.z - p.z) := by rw [lenV_5 h, Int.max_comm]
def valF (kind : Int) (p : SmpR) : Int := if kind = 1 then p.pulse else if kind = 2 then p.power else p.steps
theorem ref4_valueOf (p : SmpR) (kind : Int) (w : World) : Calls Try.prog 126 #[.agg #[.int .i64 p.at_, .int .i64 p.x, .int .i64 p.y, .int .i64 p.z, .int .i64 p.pulse, .int .i64 p.power, .int .i64 p.steps], .int .i64 kind] w fun e w' => e = .returned (.int .i64 (valF kind p)) ∧ Below w.heap.size w w' := by
  refine enterQ (N := 16) (C := fun _ => True) (H := []) (B := w.heap.size) (args := [_, _]) Try.func126 rfl rfl rfl (Nat.le_refl _) (Sat.nil _ _) fun Q hQ => ?_
  refine wp_seq' fun K1 hK1 => ?_
  refine wp_reg ?_
  refine ol_box 2 rfl rfl rfl fun b2 => ?_
  refine ol_r (r_assign rfl) rfl ?_
  refine ol_nil (to_k0 (fun _ _ h => h) (hK1 _ _ _ _ _ ?_))
  clear hK1
  refine wp_seq' fun K2 hK2 => ?_
  refine wp_seq' fun K3 hK3 => ?_
  refine wp_reg ?_
  refine ol_r (r_move rfl) rfl ?_
  refine ol_nil (to_k0 (fun _ _ h => h) (hK3 _ _ _ _ _ ?_))
  clear hK3
  refine wp_block' ?_
  refine wp_seq' fun K4 hK4 => ?_
  refine wp_reg ?_
  refine ol_r (r_eql rfl rfl) rfl ?_
  refine ol_r (r_assign rfl) rfl ?_
  refine ol_nil (to_k0 (fun _ _ h => h) (hK4 _ _ _ _ _ ?_))
  clear hK4
  first | refine wp_condD rfl (fun hc6 => ?_) (fun hc6 => ?_) | refine wp_condN rfl (fun hc6 => ?_) (fun hc6 => ?_) | refine wp_condNB rfl (fun hc6 => ?_) (fun hc6 => ?_) | refine wp_cond' rfl (fun hc6 => ?_) (fun hc6 => ?_)
  ·refine wp_seq' fun K5 hK5 => ?_
   refine wp_reg ?_
   refine ol_r (r_fa (o' := 4) rfl fl111_4 rfl) rfl ?_
   refine ol_r (r_ld (id := 2) rfl rfl rfl sc3) rfl ?_
   refine ol_r (r_assign rfl) rfl ?_
   refine ol_nil (to_k0 (fun _ _ h => h) (hK5 _ _ _ _ _ ?_))
   clear hK5
   refine hQ.ret (rvs1 (rv_t rfl)) (fun _ _ h => h) fun w hb hs hB hkd => ?_
   exact ⟨by rw [show valF kind p = p.pulse from if_pos (by omega)], hb⟩
  ·refine wp_seq' fun K6 hK6 => ?_
   refine wp_reg ?_
   refine ol_r (r_eql rfl rfl) rfl ?_
   refine ol_r (r_assign rfl) rfl ?_
   refine ol_nil (to_k0 (fun _ _ h => h) (hK6 _ _ _ _ _ ?_))
   clear hK6
   first | refine wp_condD rfl (fun hc10 => ?_) (fun hc10 => ?_) | refine wp_condN rfl (fun hc10 => ?_) (fun hc10 => ?_) | refine wp_condNB rfl (fun hc10 => ?_) (fun hc10 => ?_) | refine wp_cond' rfl (fun hc10 => ?_) (fun hc10 => ?_)
   ·refine wp_seq' fun K7 hK7 => ?_
    refine wp_reg ?_
    refine ol_r (r_fa (o' := 5) rfl fl111_5 rfl) rfl ?_
    refine ol_r (r_ld (id := 2) rfl rfl rfl sc3) rfl ?_
    refine ol_r (r_assign rfl) rfl ?_
    refine ol_nil (to_k0 (fun _ _ h => h) (hK7 _ _ _ _ _ ?_))
    clear hK7
    refine hQ.ret (rvs1 (rv_t rfl)) (fun _ _ h => h) fun w hb hs hB hkd => ?_
    exact ⟨by rw [show valF kind p = p.power by unfold valF; rw [if_neg (by omega), if_pos (by omega)]], hb⟩
   ·refine wp_skip' (to_k0 (fun _ _ h => h) (hK2 _ _ _ _ _ ?_))
    clear hK2
    refine wp_seq' fun K8 hK8 => ?_
    refine wp_reg ?_
    refine ol_r (r_fa (o' := 6) rfl fl111_6 rfl) rfl ?_
    refine ol_r (r_ld (id := 2) rfl rfl rfl sc3) rfl ?_
    refine ol_r (r_assign rfl) rfl ?_
    refine ol_nil (to_k0 (fun _ _ h => h) (hK8 _ _ _ _ _ ?_))
    clear hK8
    refine hQ.ret (rvs1 (rv_t rfl)) (fun _ _ h => h) fun w hb hs hB hkd => ?_
    exact ⟨by rw [show valF kind p = p.steps by unfold valF; rw [if_neg (by omega), if_neg (by omega)]], hb⟩
theorem elV_valF {kind : Int} {p q : SmpR} {j : Nat} (h : ¬60 < q.at_ - p.at_) (h2 : ¬4 ≤ kind) (h3 : 1 ≤ kind) : elV kind p q j = valF kind p := by
  rw [elV_val h h2]
  unfold valV valF
  by_cases a : kind = 1
  · rw [if_pos a, if_pos a]
  · by_cases b : kind = 2
    · rw [if_neg a, if_neg a, if_pos b, if_pos b]
    · rw [if_neg a, if_neg a, if_neg b, if_neg b, if_pos (by omega)]
theorem ref4_step (p q : SmpR) (kind : Int) (w : World) (hp : PlaceOk p) (hq : PlaceOk q) (h1 : -100000 ≤ p.z ∧ p.z ≤ 100000) (h2 : -100000 ≤ q.z ∧ q.z ≤ 100000) (hn : 0 < q.at_ - p.at_ ∧ q.at_ - p.at_ ≤ 1000000) (hk : 1 ≤ kind ∧ kind ≤ 5) :
    Calls Try.prog 83 #[.agg #[.int .i64 p.at_, .int .i64 p.x, .int .i64 p.y, .int .i64 p.z, .int .i64 p.pulse, .int .i64 p.power, .int .i64 p.steps], .agg #[.int .i64 q.at_, .int .i64 q.x, .int .i64 q.y, .int .i64 q.z, .int .i64 q.pulse, .int .i64 q.power, .int .i64 q.steps], .int .i64 kind] w fun e w' => ∃ b m k, e = .returned (.slice b m k) ∧ Fresh encI 3 w w' b m k (stepV kind p q) := by
  have hbl := lenD_bd hp hq
  have hsq := sqD_bd hp hq
  have hb1 := sq_bd (a := q.x - p.x) (M := 200000000) (by have := hp.1; have := hq.1; omega)
  have hb2 := sq_bd (a := q.y - p.y) (M := 200000000) (by have := hp.2; have := hq.2; omega)
  obtain ⟨hp1, hp2⟩ := hp
  obtain ⟨hq1, hq2⟩ := hq
  refine enterQ (N := 85) (C := fun _ => True) (H := []) (B := w.heap.size) (args := [_, _, _]) Try.func83 rfl rfl rfl (Nat.le_refl _) (Sat.nil _ _) fun Q hQ => ?_
  refine wp_seq' fun K1 hK1 => ?_
  refine wp_reg ?_
  refine ol_box 3 rfl rfl rfl fun b3 => ?_
  refine ol_box 4 rfl rfl rfl fun b4 => ?_
  refine ol_r (r_assign rfl) rfl ?_
  refine ol_nil (to_k0 (fun _ _ h => h) (hK1 _ _ _ _ _ ?_))
  clear hK1
  refine wp_seq' fun K2 hK2 => ?_
  refine wp_reg ?_
  refine ol_r (r_fa (o' := 0) rfl fl111_0 rfl) rfl ?_
  refine ol_r (r_ld (id := 4) rfl rfl rfl sc3) rfl ?_
  refine ol_r (r_fa (o' := 0) rfl fl111_0 rfl) rfl ?_
  refine ol_r (r_ld (id := 3) rfl rfl rfl sc3) rfl ?_
  refine ol_r (r_sub rfl rfl (by omega)) rfl ?_
  refine ol_r (r_assign rfl) rfl ?_
  refine ol_nil (to_k0 (fun _ _ h => h) (hK2 _ _ _ _ _ ?_))
  clear hK2
  refine wp_seq' fun K3 hK3 => ?_
  refine wp_reg ?_
  refine ol_r (r_move rfl) rfl ?_
  refine ol_r (r_gtr rfl rfl) rfl ?_
  refine ol_r (r_assign rfl) rfl ?_
  refine ol_nil (to_k0 (fun _ _ h => h) (hK3 _ _ _ _ _ ?_))
  clear hK3
  refine wp_seq' fun K4 hK4 => ?_
  refine wp_reg ?_
  refine ol_r (r_assign rfl) rfl ?_
  refine ol_nil (to_k0 (fun _ _ h => h) (hK4 _ _ _ _ _ ?_))
  clear hK4
  refine wp_seq' fun K5 hK5 => ?_
  refine wp_seq' fun K6 hK6 => ?_
  refine wp_reg ?_
  refine ol_r (r_move rfl) rfl ?_
  refine ol_nil (to_k0 (fun _ _ h => h) (hK6 _ _ _ _ _ ?_))
  clear hK6
  refine wp_block' ?_
  refine wp_seq' fun K7 hK7 => ?_
  refine wp_reg ?_
  refine ol_r (r_eql rfl rfl) rfl ?_
  refine ol_r (r_assign rfl) rfl ?_
  refine ol_nil (to_k0 (fun _ _ h => h) (hK7 _ _ _ _ _ ?_))
  clear hK7
  first | refine wp_condD rfl (fun hc21 => ?_) (fun hc21 => ?_) | refine wp_condN rfl (fun hc21 => ?_) (fun hc21 => ?_) | refine wp_condNB rfl (fun hc21 => ?_) (fun hc21 => ?_) | refine wp_cond' rfl (fun hc21 => ?_) (fun hc21 => ?_)
  ·refine wp_reg ?_
   refine ol_r (r_fa (o' := 1) rfl fl111_1 rfl) rfl ?_
   refine ol_r (r_ld (id := 4) rfl rfl rfl sc3) rfl ?_
   refine ol_r (r_fa (o' := 1) rfl fl111_1 rfl) rfl ?_
   refine ol_r (r_ld (id := 3) rfl rfl rfl sc3) rfl ?_
   refine ol_r (r_sub rfl rfl (by omega)) rfl ?_
   refine ol_r (r_fa (o' := 1) rfl fl111_1 rfl) rfl ?_
   refine ol_r (r_ld (id := 4) rfl rfl rfl sc3) rfl ?_
   refine ol_r (r_fa (o' := 1) rfl fl111_1 rfl) rfl ?_
   refine ol_r (r_ld (id := 3) rfl rfl rfl sc3) rfl ?_
   refine ol_r (r_sub rfl rfl (by omega)) rfl ?_
   refine ol_r (r_mul rfl rfl (by omega)) rfl ?_
   refine ol_r (r_fa (o' := 2) rfl fl111_2 rfl) rfl ?_
   refine ol_r (r_ld (id := 4) rfl rfl rfl sc3) rfl ?_
   refine ol_r (r_fa (o' := 2) rfl fl111_2 rfl) rfl ?_
   refine ol_r (r_ld (id := 3) rfl rfl rfl sc3) rfl ?_
   refine ol_r (r_sub rfl rfl (by omega)) rfl ?_
   refine ol_r (r_fa (o' := 2) rfl fl111_2 rfl) rfl ?_
   refine ol_r (r_ld (id := 4) rfl rfl rfl sc3) rfl ?_
   refine ol_r (r_fa (o' := 2) rfl fl111_2 rfl) rfl ?_
   refine ol_r (r_ld (id := 3) rfl rfl rfl sc3) rfl ?_
   refine ol_r (r_sub rfl rfl (by omega)) rfl ?_
   refine ol_r (r_mul rfl rfl (by omega)) rfl ?_
   refine ol_r (r_add rfl rfl (by omega)) rfl ?_
   refine ol_call rfl rfl cb125 rfl (fun w1 hb1 hs1 hB1 => Calls.mono (ref4_rootD p q _ hsq) ?_)
   rintro e w2 ⟨rfl, hb2⟩
   refine After.below rfl hb1 hs1 hB1 hb2 ?_
   clear hb2 hB1 hs1 hb1 w2 w1
   refine ol_r (r_assign rfl) rfl ?_
   refine ol_nil (to_k0 (fun _ _ h => h) (hK5 _ _ _ _ _ ?_))
   clear hK5
   refine wp_seq' fun K8 hK8 => ?_
   refine wp_reg ?_
   refine ol_nilrow 10 3 1 ?_
   refine ol_r (r_assign rfl) rfl ?_
   refine ol_nil (to_k0 (fun _ _ h => h) (hK8 _ _ _ _ _ ?_))
   clear hK8
   refine wp_seq' fun K9 hK9 => ?_
   refine wp_seq' fun K10 hK10 => ?_
   refine wp_reg ?_
   refine ol_r (r_move rfl) rfl ?_
   refine ol_r (r_move rfl) rfl ?_
   refine ol_nil (to_k0 (fun _ _ h => h) (hK10 _ _ _ _ _ ?_))
   clear hK10
   refine wp_block' ?_
   apply wp_loopM (σ := Nat × Option Addr × Nat × Nat) (fun s => (s.1 : Int) ≤ q.at_ - p.at_ ∧ s.2.2.1 = s.1) (fun s => [(56, .int .i64 s.1), (10, .slice s.2.1 s.2.2.1 s.2.2.2)]) [(2, _), (3, _), (6, _), (7, _), (8, _), (9, _), (55, _)] (fun s => [(10, .row s.2.1 s.2.2.1 s.2.2.2 (encI.enc ((stepV kind p q).take s.1)) 3 1)]) [(3, _), (4, _)] (fun s => (q.at_ - p.at_).toNat - s.1) ((0, none, 0, 0))
   ·try dsimp only
    exact ⟨by omega, rfl⟩
   ·exact (sub_cons rfl (sub_cons rfl sub_nil))
   ·exact (sub_cons rfl (sub_cons rfl (sub_cons rfl (sub_cons rfl (sub_cons rfl (sub_cons rfl (sub_cons rfl sub_nil)))))))
   ·exact (subH_row rfl (by first | (dsimp only; rfl; done) | (rfl; done) | (dsimp only; done)) subH_nil)
   ·exact (subH_same rfl (subH_same rfl subH_nil))
   ·rintro ⟨j, ja, jn, jc⟩ ⟨hj, hjn⟩
    dsimp only at hj hjn ⊢
    intro K11 hK11
    refine wp_seq' fun K12 hK12 => ?_
    refine wp_reg ?_
    refine ol_r (r_lss rfl rfl) rfl ?_
    refine ol_nil (to_k0 (fun _ _ h => h) (hK12 _ _ _ _ _ ?_))
    clear hK12
    refine wp_seq' fun K13 hK13 => ?_
    first | refine wp_condD rfl (fun hc57 => ?_) (fun hc57 => ?_) | refine wp_condN rfl (fun hc57 => ?_) (fun hc57 => ?_) | refine wp_condNB rfl (fun hc57 => ?_) (fun hc57 => ?_) | refine wp_cond' rfl (fun hc57 => ?_) (fun hc57 => ?_)
    ·refine wp_skip' (to_k0 (fun _ _ h => h) (hK13 _ _ _ _ _ ?_))
     clear hK13
     refine wp_seq' fun K14 hK14 => ?_
     refine wp_block' ?_
     refine wp_seq' fun K15 hK15 => ?_
     refine wp_reg ?_
     refine ol_r (r_move rfl) rfl ?_
     refine ol_r (r_assign rfl) rfl ?_
     refine ol_nil (to_k0 (fun _ _ h => h) (hK15 _ _ _ _ _ ?_))
     clear hK15
     refine wp_seq' fun K16 hK16 => ?_
     refine wp_reg ?_
     refine ol_r (r_lda (id := 3) (n := 7) rfl rfl rfl ag111) rfl ?_
     refine ol_r (r_move rfl) rfl ?_
     refine ol_call rfl rfl cb126 rfl (fun w1 hb1 hs1 hB1 => Calls.mono (ref4_valueOf _ _ _) ?_)
     rintro e w2 ⟨rfl, hb2⟩
     refine After.below rfl hb1 hs1 hB1 hb2 ?_
     clear hb2 hB1 hs1 hb1 w2 w1
     refine ol_r (r_assign rfl) rfl ?_
     refine ol_nil (to_k0 (fun _ _ h => h) (hK16 _ _ _ _ _ ?_))
     clear hK16
     refine wp_seq' fun K17 hK17 => ?_
     refine wp_seq' fun K18 hK18 => ?_
     refine wp_reg ?_
     refine ol_r (r_move rfl) rfl ?_
     refine ol_r (r_geq rfl rfl) rfl ?_
     refine ol_nil (to_k0 (fun _ _ h => h) (hK18 _ _ _ _ _ ?_))
     clear hK18
     first | refine wp_condD rfl (fun hc63 => ?_) (fun hc63 => ?_) | refine wp_condN rfl (fun hc63 => ?_) (fun hc63 => ?_) | refine wp_condNB rfl (fun hc63 => ?_) (fun hc63 => ?_) | refine wp_cond' rfl (fun hc63 => ?_) (fun hc63 => ?_)
     ·refine wp_regq (by kernel_rfl) (by kernel_rfl) ?_
      refine ql_r (r_move rfl) rfl ?_
      refine ql_r (r_move rfl) rfl ?_
      have m1 := mul_bd (a := lenD p q) (b := (j : Int) + 1) (A := 300000000) (B := 1000000) (by omega) (by omega) (by omega) (by omega)
      have m2 := mul_bd (a := lenD p q) (b := (j : Int)) (A := 300000000) (B := 1000000) (by omega) (by omega) (by omega) (by omega)
      have m3 := mul_bd (a := max 0 (q.z - p.z)) (b := (j : Int) + 1) (A := 300000000) (B := 1000000) (by omega) (by omega) (by omega) (by omega)
      have m4 := mul_bd (a := max 0 (q.z - p.z)) (b := (j : Int)) (A := 300000000) (B := 1000000) (by omega) (by omega) (by omega) (by omega)
      have d1 := spread_bd (v := lenD p q) (n := q.at_ - p.at_) (j := j) (by omega) (by omega)
      have d2 := spread_bd (v := max 0 (q.z - p.z)) (n := q.at_ - p.at_) (j := j) (by omega) (by omega)
      refine ql_r (r_add rfl rfl (by omega)) rfl ?_
      refine ql_r (r_mul rfl rfl (by omega)) rfl ?_
      refine ql_r (r_move rfl) rfl ?_
      first | refine ql_r (r_quo rfl rfl (by omega)) rfl ?_ | refine ql_r (r_tquo rfl rfl (by omega)) rfl ?_
      refine ql_r (r_move rfl) rfl ?_
      refine ql_r (r_move rfl) rfl ?_
      refine ql_r (r_mul rfl rfl (by omega)) rfl ?_
      refine ql_r (r_move rfl) rfl ?_
      first | refine ql_r (r_quo rfl rfl (by omega)) rfl ?_ | refine ql_r (r_tquo rfl rfl (by omega)) rfl ?_
      refine ql_r (r_sub rfl rfl (by omega)) rfl ?_
      refine ql_r (r_assign rfl) rfl ?_
      refine ql_nil (to_k0 (fun _ _ h => h) (hK17 _ _ _ _ _ ?_))
      clear hK17
      refine wp_seq' fun K19 hK19 => ?_
      refine wp_seq' fun K20 hK20 => ?_
      refine wp_reg ?_
      refine ol_r (r_move rfl) rfl ?_
      refine ol_nil (to_k0 (fun _ _ h => h) (hK20 _ _ _ _ _ ?_))
      clear hK20
      first | refine wp_condD rfl (fun hc76 => ?_) (fun hc76 => ?_) | refine wp_condN rfl (fun hc76 => ?_) (fun hc76 => ?_) | refine wp_condNB rfl (fun hc76 => ?_) (fun hc76 => ?_) | refine wp_cond' rfl (fun hc76 => ?_) (fun hc76 => ?_)
      ·refine wp_seq' fun K21 hK21 => ?_
       refine wp_reg ?_
       refine ol_r (r_assign rfl) rfl ?_
       refine ol_nil (to_k0 (fun _ _ h => h) (hK21 _ _ _ _ _ ?_))
       clear hK21
       refine wp_seq' fun K22 hK22 => ?_
       refine wp_reg ?_
       refine ol_r (r_move rfl) rfl ?_
       refine ol_r (r_geq rfl rfl) rfl ?_
       refine ol_nil (to_k0 (fun _ _ h => h) (hK22 _ _ _ _ _ ?_))
       clear hK22
       first | refine wp_condD rfl (fun hc78 => ?_) (fun hc78 => ?_) | refine wp_condN rfl (fun hc78 => ?_) (fun hc78 => ?_) | refine wp_condNB rfl (fun hc78 => ?_) (fun hc78 => ?_) | refine wp_cond' rfl (fun hc78 => ?_) (fun hc78 => ?_)
       ·refine wp_reg ?_
        refine ol_r (r_assign rfl) rfl ?_
        refine ol_nil (to_k0 (fun _ _ h => h) (hK19 _ _ _ _ _ ?_))
        clear hK19
        refine wp_reg ?_
        refine ol_r (r_move rfl) rfl ?_
        refine ol_r (r_move rfl) rfl ?_
        refine ol_bs1 81 rfl rfl rw22 rfl rfl rfl fun a81 => ?_
        refine ol_append1 (id := 10) (id2 := 81) rfl rfl rfl rfl rfl rw22 (by omega) rfl fun a82 c82 => ?_
        refine ol_r (r_assign rfl) rfl ?_
        refine ol_nil (to_k0 (fun _ _ h => h) (hK14 _ _ _ _ _ ?_))
        clear hK14
        refine wp_reg ?_
        refine ol_r (r_add rfl rfl (by omega)) rfl ?_
        refine ol_r (r_move rfl) rfl ?_
        refine ol_nil (to_k0 (fun _ _ h => h) (hK11 ((j + 1, _, _, _)) _ _ ?_ ?_ (sub_cons rfl (sub_cons rfl sub_nil)) (sub_cons rfl (sub_cons rfl (sub_cons rfl (sub_cons rfl (sub_cons rfl (sub_cons rfl (sub_cons rfl sub_nil))))))) (by exact (subH_row rfl (by first | (dsimp only; first | (exfalso; omega) | (rw [stepV_snoc (by omega) (elV_big (by omega) (by omega)), encI_snoc]; done) | (rw [stepV_snoc (by omega) (elV_gap (by omega) (by omega)), encI_snoc]; done) | (rw [stepV_snoc (by omega) (elV_len (by omega) (by omega)), lenV_4 (by omega), encI_snoc]; done) | (rw [stepV_snoc (by omega) (elV_len (by omega) (by omega)), lenV_6 (by omega), encI_snoc]; done) | (rw [stepV_snoc (by omega) (elV_valF (by omega) (by omega) (by omega)), encI_snoc]; done); done) | (first | (exfalso; omega) | (rw [stepV_snoc (by omega) (elV_big (by omega) (by omega)), encI_snoc]; done) | (rw [stepV_snoc (by omega) (elV_gap (by omega) (by omega)), encI_snoc]; done) | (rw [stepV_snoc (by omega) (elV_len (by omega) (by omega)), lenV_4 (by omega), encI_snoc]; done) | (rw [stepV_snoc (by omega) (elV_len (by omega) (by omega)), lenV_6 (by omega), encI_snoc]; done) | (rw [stepV_snoc (by omega) (elV_valF (by omega) (by omega) (by omega)), encI_snoc]; done); done) | (dsimp only; done)) subH_nil)) (subH_same rfl (subH_same rfl subH_nil))))
        ·try dsimp only
         exact ⟨by omega, by omega⟩
        ·try dsimp only
         omega
       ·refine wp_skip' (to_k0 (fun _ _ h => h) (hK19 _ _ _ _ _ ?_))
        clear hK19
        refine wp_reg ?_
        refine ol_r (r_move rfl) rfl ?_
        refine ol_r (r_move rfl) rfl ?_
        refine ol_bs1 81 rfl rfl rw22 rfl rfl rfl fun a81 => ?_
        refine ol_append1 (id := 10) (id2 := 81) rfl rfl rfl rfl rfl rw22 (by omega) rfl fun a82 c82 => ?_
        refine ol_r (r_assign rfl) rfl ?_
        refine ol_nil (to_k0 (fun _ _ h => h) (hK14 _ _ _ _ _ ?_))
        clear hK14
        refine wp_reg ?_
        refine ol_r (r_add rfl rfl (by omega)) rfl ?_
        refine ol_r (r_move rfl) rfl ?_
        refine ol_nil (to_k0 (fun _ _ h => h) (hK11 ((j + 1, _, _, _)) _ _ ?_ ?_ (sub_cons rfl (sub_cons rfl sub_nil)) (sub_cons rfl (sub_cons rfl (sub_cons rfl (sub_cons rfl (sub_cons rfl (sub_cons rfl (sub_cons rfl sub_nil))))))) (by exact (subH_row rfl (by first | (dsimp only; first | (exfalso; omega) | (rw [stepV_snoc (by omega) (elV_big (by omega) (by omega)), encI_snoc]; done) | (rw [stepV_snoc (by omega) (elV_gap (by omega) (by omega)), encI_snoc]; done) | (rw [stepV_snoc (by omega) (elV_len (by omega) (by omega)), lenV_4 (by omega), encI_snoc]; done) | (rw [stepV_snoc (by omega) (elV_len (by omega) (by omega)), lenV_6 (by omega), encI_snoc]; done) | (rw [stepV_snoc (by omega) (elV_valF (by omega) (by omega) (by omega)), encI_snoc]; done); done) | (first | (exfalso; omega) | (rw [stepV_snoc (by omega) (elV_big (by omega) (by omega)), encI_snoc]; done) | (rw [stepV_snoc (by omega) (elV_gap (by omega) (by omega)), encI_snoc]; done) | (rw [stepV_snoc (by omega) (elV_len (by omega) (by omega)), lenV_4 (by omega), encI_snoc]; done) | (rw [stepV_snoc (by omega) (elV_len (by omega) (by omega)), lenV_6 (by omega), encI_snoc]; done) | (rw [stepV_snoc (by omega) (elV_valF (by omega) (by omega) (by omega)), encI_snoc]; done); done) | (dsimp only; done)) subH_nil)) (subH_same rfl (subH_same rfl subH_nil))))
        ·try dsimp only
         exact ⟨by omega, by omega⟩
        ·try dsimp only
         omega
      ·refine wp_skip' (to_k0 (fun _ _ h => h) (hK19 _ _ _ _ _ ?_))
       clear hK19
       refine wp_reg ?_
       refine ol_r (r_move rfl) rfl ?_
       refine ol_r (r_move rfl) rfl ?_
       refine ol_bs1 81 rfl rfl rw22 rfl rfl rfl fun a81 => ?_
       refine ol_append1 (id := 10) (id2 := 81) rfl rfl rfl rfl rfl rw22 (by omega) rfl fun a82 c82 => ?_
       refine ol_r (r_assign rfl) rfl ?_
       refine ol_nil (to_k0 (fun _ _ h => h) (hK14 _ _ _ _ _ ?_))
       clear hK14
       refine wp_reg ?_
       refine ol_r (r_add rfl rfl (by omega)) rfl ?_
       refine ol_r (r_move rfl) rfl ?_
       refine ol_nil (to_k0 (fun _ _ h => h) (hK11 ((j + 1, _, _, _)) _ _ ?_ ?_ (sub_cons rfl (sub_cons rfl sub_nil)) (sub_cons rfl (sub_cons rfl (sub_cons rfl (sub_cons rfl (sub_cons rfl (sub_cons rfl (sub_cons rfl sub_nil))))))) (by exact (subH_row rfl (by first | (dsimp only; first | (exfalso; omega) | (rw [stepV_snoc (by omega) (elV_big (by omega) (by omega)), encI_snoc]; done) | (rw [stepV_snoc (by omega) (elV_gap (by omega) (by omega)), encI_snoc]; done) | (rw [stepV_snoc (by omega) (elV_len (by omega) (by omega)), lenV_4 (by omega), encI_snoc]; done) | (rw [stepV_snoc (by omega) (elV_len (by omega) (by omega)), lenV_6 (by omega), encI_snoc]; done) | (rw [stepV_snoc (by omega) (elV_valF (by omega) (by omega) (by omega)), encI_snoc]; done); done) | (first | (exfalso; omega) | (rw [stepV_snoc (by omega) (elV_big (by omega) (by omega)), encI_snoc]; done) | (rw [stepV_snoc (by omega) (elV_gap (by omega) (by omega)), encI_snoc]; done) | (rw [stepV_snoc (by omega) (elV_len (by omega) (by omega)), lenV_4 (by omega), encI_snoc]; done) | (rw [stepV_snoc (by omega) (elV_len (by omega) (by omega)), lenV_6 (by omega), encI_snoc]; done) | (rw [stepV_snoc (by omega) (elV_valF (by omega) (by omega) (by omega)), encI_snoc]; done); done) | (dsimp only; done)) subH_nil)) (subH_same rfl (subH_same rfl subH_nil))))
       ·try dsimp only
        exact ⟨by omega, by omega⟩
       ·try dsimp only
        omega
     ·refine wp_skip' (to_k0 (fun _ _ h => h) (hK17 _ _ _ _ _ ?_))
      clear hK17
      refine wp_seq' fun K23 hK23 => ?_
      refine wp_seq' fun K24 hK24 => ?_
      refine wp_reg ?_
      refine ol_r (r_move rfl) rfl ?_
      refine ol_nil (to_k0 (fun _ _ h => h) (hK24 _ _ _ _ _ ?_))
      clear hK24
      first | refine wp_condD rfl (fun hc76 => ?_) (fun hc76 => ?_) | refine wp_condN rfl (fun hc76 => ?_) (fun hc76 => ?_) | refine wp_condNB rfl (fun hc76 => ?_) (fun hc76 => ?_) | refine wp_cond' rfl (fun hc76 => ?_) (fun hc76 => ?_)
      ·refine wp_seq' fun K25 hK25 => ?_
       refine wp_reg ?_
       refine ol_r (r_assign rfl) rfl ?_
       refine ol_nil (to_k0 (fun _ _ h => h) (hK25 _ _ _ _ _ ?_))
       clear hK25
       refine wp_seq' fun K26 hK26 => ?_
       refine wp_reg ?_
       refine ol_r (r_move rfl) rfl ?_
       refine ol_r (r_geq rfl rfl) rfl ?_
       refine ol_nil (to_k0 (fun _ _ h => h) (hK26 _ _ _ _ _ ?_))
       clear hK26
       first | refine wp_condD rfl (fun hc78 => ?_) (fun hc78 => ?_) | refine wp_condN rfl (fun hc78 => ?_) (fun hc78 => ?_) | refine wp_condNB rfl (fun hc78 => ?_) (fun hc78 => ?_) | refine wp_cond' rfl (fun hc78 => ?_) (fun hc78 => ?_)
       ·refine wp_reg ?_
        refine ol_r (r_assign rfl) rfl ?_
        refine ol_nil (to_k0 (fun _ _ h => h) (hK23 _ _ _ _ _ ?_))
        clear hK23
        refine wp_reg ?_
        refine ol_r (r_move rfl) rfl ?_
        refine ol_r (r_move rfl) rfl ?_
        refine ol_bs1 81 rfl rfl rw22 rfl rfl rfl fun a81 => ?_
        refine ol_append1 (id := 10) (id2 := 81) rfl rfl rfl rfl rfl rw22 (by omega) rfl fun a82 c82 => ?_
        refine ol_r (r_assign rfl) rfl ?_
        refine ol_nil (to_k0 (fun _ _ h => h) (hK14 _ _ _ _ _ ?_))
        clear hK14
        refine wp_reg ?_
        refine ol_r (r_add rfl rfl (by omega)) rfl ?_
        refine ol_r (r_move rfl) rfl ?_
        refine ol_nil (to_k0 (fun _ _ h => h) (hK11 ((j + 1, _, _, _)) _ _ ?_ ?_ (sub_cons rfl (sub_cons rfl sub_nil)) (sub_cons rfl (sub_cons rfl (sub_cons rfl (sub_cons rfl (sub_cons rfl (sub_cons rfl (sub_cons rfl sub_nil))))))) (by exact (subH_row rfl (by first | (dsimp only; first | (exfalso; omega) | (rw [stepV_snoc (by omega) (elV_big (by omega) (by omega)), encI_snoc]; done) | (rw [stepV_snoc (by omega) (elV_gap (by omega) (by omega)), encI_snoc]; done) | (rw [stepV_snoc (by omega) (elV_len (by omega) (by omega)), lenV_4 (by omega), encI_snoc]; done) | (rw [stepV_snoc (by omega) (elV_len (by omega) (by omega)), lenV_6 (by omega), encI_snoc]; done) | (rw [stepV_snoc (by omega) (elV_valF (by omega) (by omega) (by omega)), encI_snoc]; done); done) | (first | (exfalso; omega) | (rw [stepV_snoc (by omega) (elV_big (by omega) (by omega)), encI_snoc]; done) | (rw [stepV_snoc (by omega) (elV_gap (by omega) (by omega)), encI_snoc]; done) | (rw [stepV_snoc (by omega) (elV_len (by omega) (by omega)), lenV_4 (by omega), encI_snoc]; done) | (rw [stepV_snoc (by omega) (elV_len (by omega) (by omega)), lenV_6 (by omega), encI_snoc]; done) | (rw [stepV_snoc (by omega) (elV_valF (by omega) (by omega) (by omega)), encI_snoc]; done); done) | (dsimp only; done)) subH_nil)) (subH_same rfl (subH_same rfl subH_nil))))
        ·try dsimp only
         exact ⟨by omega, by omega⟩
        ·try dsimp only
         omega
       ·refine wp_skip' (to_k0 (fun _ _ h => h) (hK23 _ _ _ _ _ ?_))
        clear hK23
        refine wp_reg ?_
        refine ol_r (r_move rfl) rfl ?_
        refine ol_r (r_move rfl) rfl ?_
        refine ol_bs1 81 rfl rfl rw22 rfl rfl rfl fun a81 => ?_
        refine ol_append1 (id := 10) (id2 := 81) rfl rfl rfl rfl rfl rw22 (by omega) rfl fun a82 c82 => ?_
        refine ol_r (r_assign rfl) rfl ?_
        refine ol_nil (to_k0 (fun _ _ h => h) (hK14 _ _ _ _ _ ?_))
        clear hK14
        refine wp_reg ?_
        refine ol_r (r_add rfl rfl (by omega)) rfl ?_
        refine ol_r (r_move rfl) rfl ?_
        refine ol_nil (to_k0 (fun _ _ h => h) (hK11 ((j + 1, _, _, _)) _ _ ?_ ?_ (sub_cons rfl (sub_cons rfl sub_nil)) (sub_cons rfl (sub_cons rfl (sub_cons rfl (sub_cons rfl (sub_cons rfl (sub_cons rfl (sub_cons rfl sub_nil))))))) (by exact (subH_row rfl (by first | (dsimp only; first | (exfalso; omega) | (rw [stepV_snoc (by omega) (elV_big (by omega) (by omega)), encI_snoc]; done) | (rw [stepV_snoc (by omega) (elV_gap (by omega) (by omega)), encI_snoc]; done) | (rw [stepV_snoc (by omega) (elV_len (by omega) (by omega)), lenV_4 (by omega), encI_snoc]; done) | (rw [stepV_snoc (by omega) (elV_len (by omega) (by omega)), lenV_6 (by omega), encI_snoc]; done) | (rw [stepV_snoc (by omega) (elV_valF (by omega) (by omega) (by omega)), encI_snoc]; done); done) | (first | (exfalso; omega) | (rw [stepV_snoc (by omega) (elV_big (by omega) (by omega)), encI_snoc]; done) | (rw [stepV_snoc (by omega) (elV_gap (by omega) (by omega)), encI_snoc]; done) | (rw [stepV_snoc (by omega) (elV_len (by omega) (by omega)), lenV_4 (by omega), encI_snoc]; done) | (rw [stepV_snoc (by omega) (elV_len (by omega) (by omega)), lenV_6 (by omega), encI_snoc]; done) | (rw [stepV_snoc (by omega) (elV_valF (by omega) (by omega) (by omega)), encI_snoc]; done); done) | (dsimp only; done)) subH_nil)) (subH_same rfl (subH_same rfl subH_nil))))
        ·try dsimp only
         exact ⟨by omega, by omega⟩
        ·try dsimp only
         omega
      ·refine wp_skip' (to_k0 (fun _ _ h => h) (hK23 _ _ _ _ _ ?_))
       clear hK23
       refine wp_reg ?_
       refine ol_r (r_move rfl) rfl ?_
       refine ol_r (r_move rfl) rfl ?_
       refine ol_bs1 81 rfl rfl rw22 rfl rfl rfl fun a81 => ?_
       refine ol_append1 (id := 10) (id2 := 81) rfl rfl rfl rfl rfl rw22 (by omega) rfl fun a82 c82 => ?_
       refine ol_r (r_assign rfl) rfl ?_
       refine ol_nil (to_k0 (fun _ _ h => h) (hK14 _ _ _ _ _ ?_))
       clear hK14
       refine wp_reg ?_
       refine ol_r (r_add rfl rfl (by omega)) rfl ?_
       refine ol_r (r_move rfl) rfl ?_
       refine ol_nil (to_k0 (fun _ _ h => h) (hK11 ((j + 1, _, _, _)) _ _ ?_ ?_ (sub_cons rfl (sub_cons rfl sub_nil)) (sub_cons rfl (sub_cons rfl (sub_cons rfl (sub_cons rfl (sub_cons rfl (sub_cons rfl (sub_cons rfl sub_nil))))))) (by exact (subH_row rfl (by first | (dsimp only; first | (exfalso; omega) | (rw [stepV_snoc (by omega) (elV_big (by omega) (by omega)), encI_snoc]; done) | (rw [stepV_snoc (by omega) (elV_gap (by omega) (by omega)), encI_snoc]; done) | (rw [stepV_snoc (by omega) (elV_len (by omega) (by omega)), lenV_4 (by omega), encI_snoc]; done) | (rw [stepV_snoc (by omega) (elV_len (by omega) (by omega)), lenV_6 (by omega), encI_snoc]; done) | (rw [stepV_snoc (by omega) (elV_valF (by omega) (by omega) (by omega)), encI_snoc]; done); done) | (first | (exfalso; omega) | (rw [stepV_snoc (by omega) (elV_big (by omega) (by omega)), encI_snoc]; done) | (rw [stepV_snoc (by omega) (elV_gap (by omega) (by omega)), encI_snoc]; done) | (rw [stepV_snoc (by omega) (elV_len (by omega) (by omega)), lenV_4 (by omega), encI_snoc]; done) | (rw [stepV_snoc (by omega) (elV_len (by omega) (by omega)), lenV_6 (by omega), encI_snoc]; done) | (rw [stepV_snoc (by omega) (elV_valF (by omega) (by omega) (by omega)), encI_snoc]; done); done) | (dsimp only; done)) subH_nil)) (subH_same rfl (subH_same rfl subH_nil))))
       ·try dsimp only
        exact ⟨by omega, by omega⟩
       ·try dsimp only
        omega
    ·refine wp_exit' (to_k0 (fun _ _ h => h) (hK9 _ _ _ _ _ ?_))
     clear hK9
     refine wp_seq' fun K27 hK27 => ?_
     refine wp_reg ?_
     refine ol_r (r_move rfl) rfl ?_
     refine ol_r (r_assign rfl) rfl ?_
     refine ol_nil (to_k0 (fun _ _ h => h) (hK27 _ _ _ _ _ ?_))
     clear hK27
     refine hQ.ret (rvs1 (rv_t rfl)) (fun _ _ h => h) fun w hb hs hB hkd => ?_
     have hjj : (j : Int) = q.at_ - p.at_ := by omega
     have h9 := hs.ok 10 _ rfl
     rw [List.take_of_length_le (by rw [stepV_len]; omega)] at h9
     exact ⟨_, _, _, rfl, hb, h9⟩
  ·refine wp_seq' fun K28 hK28 => ?_
   refine wp_reg ?_
   refine ol_r (r_eql rfl rfl) rfl ?_
   refine ol_r (r_assign rfl) rfl ?_
   refine ol_nil (to_k0 (fun _ _ h => h) (hK28 _ _ _ _ _ ?_))
   clear hK28
   first | refine wp_condD rfl (fun hc47 => ?_) (fun hc47 => ?_) | refine wp_condN rfl (fun hc47 => ?_) (fun hc47 => ?_) | refine wp_condNB rfl (fun hc47 => ?_) (fun hc47 => ?_) | refine wp_cond' rfl (fun hc47 => ?_) (fun hc47 => ?_)
   ·refine wp_reg ?_
    refine ol_r (r_fa (o' := 3) rfl fl111_3 rfl) rfl ?_
    refine ol_r (r_ld (id := 4) rfl rfl rfl sc3) rfl ?_
    refine ol_r (r_fa (o' := 3) rfl fl111_3 rfl) rfl ?_
    refine ol_r (r_ld (id := 3) rfl rfl rfl sc3) rfl ?_
    refine ol_r (r_sub rfl rfl (by omega)) rfl ?_
    refine ol_r (r_max rfl rfl) rfl ?_
    refine ol_r (r_assign rfl) rfl ?_
    refine ol_nil (to_k0 (fun _ _ h => h) (hK5 _ _ _ _ _ ?_))
    clear hK5
    refine wp_seq' fun K29 hK29 => ?_
    refine wp_reg ?_
    refine ol_nilrow 10 3 1 ?_
    refine ol_r (r_assign rfl) rfl ?_
    refine ol_nil (to_k0 (fun _ _ h => h) (hK29 _ _ _ _ _ ?_))
    clear hK29
    refine wp_seq' fun K30 hK30 => ?_
    refine wp_seq' fun K31 hK31 => ?_
    refine wp_reg ?_
    refine ol_r (r_move rfl) rfl ?_
    refine ol_r (r_move rfl) rfl ?_
    refine ol_nil (to_k0 (fun _ _ h => h) (hK31 _ _ _ _ _ ?_))
    clear hK31
    refine wp_block' ?_
    apply wp_loopM (σ := Nat × Option Addr × Nat × Nat) (fun s => (s.1 : Int) ≤ q.at_ - p.at_ ∧ s.2.2.1 = s.1) (fun s => [(56, .int .i64 s.1), (10, .slice s.2.1 s.2.2.1 s.2.2.2)]) [(2, _), (3, _), (6, _), (7, _), (8, _), (9, _), (55, _)] (fun s => [(10, .row s.2.1 s.2.2.1 s.2.2.2 (encI.enc ((stepV kind p q).take s.1)) 3 1)]) [(3, _), (4, _)] (fun s => (q.at_ - p.at_).toNat - s.1) ((0, none, 0, 0))
    ·try dsimp only
     exact ⟨by omega, rfl⟩
    ·exact (sub_cons rfl (sub_cons rfl sub_nil))
    ·exact (sub_cons rfl (sub_cons rfl (sub_cons rfl (sub_cons rfl (sub_cons rfl (sub_cons rfl (sub_cons rfl sub_nil)))))))
    ·exact (subH_row rfl (by first | (dsimp only; rfl; done) | (rfl; done) | (dsimp only; done)) subH_nil)
    ·exact (subH_same rfl (subH_same rfl subH_nil))
    ·rintro ⟨j, ja, jn, jc⟩ ⟨hj, hjn⟩
     dsimp only at hj hjn ⊢
     intro K32 hK32
     refine wp_seq' fun K33 hK33 => ?_
     refine wp_reg ?_
     refine ol_r (r_lss rfl rfl) rfl ?_
     refine ol_nil (to_k0 (fun _ _ h => h) (hK33 _ _ _ _ _ ?_))
     clear hK33
     refine wp_seq' fun K34 hK34 => ?_
     first | refine wp_condD rfl (fun hc57 => ?_) (fun hc57 => ?_) | refine wp_condN rfl (fun hc57 => ?_) (fun hc57 => ?_) | refine wp_condNB rfl (fun hc57 => ?_) (fun hc57 => ?_) | refine wp_cond' rfl (fun hc57 => ?_) (fun hc57 => ?_)
     ·refine wp_skip' (to_k0 (fun _ _ h => h) (hK34 _ _ _ _ _ ?_))
      clear hK34
      refine wp_seq' fun K35 hK35 => ?_
      refine wp_block' ?_
      refine wp_seq' fun K36 hK36 => ?_
      refine wp_reg ?_
      refine ol_r (r_move rfl) rfl ?_
      refine ol_r (r_assign rfl) rfl ?_
      refine ol_nil (to_k0 (fun _ _ h => h) (hK36 _ _ _ _ _ ?_))
      clear hK36
      refine wp_seq' fun K37 hK37 => ?_
      refine wp_reg ?_
      refine ol_r (r_lda (id := 3) (n := 7) rfl rfl rfl ag111) rfl ?_
      refine ol_r (r_move rfl) rfl ?_
      refine ol_call rfl rfl cb126 rfl (fun w1 hb1 hs1 hB1 => Calls.mono (ref4_valueOf _ _ _) ?_)
      rintro e w2 ⟨rfl, hb2⟩
      refine After.below rfl hb1 hs1 hB1 hb2 ?_
      clear hb2 hB1 hs1 hb1 w2 w1
      refine ol_r (r_assign rfl) rfl ?_
      refine ol_nil (to_k0 (fun _ _ h => h) (hK37 _ _ _ _ _ ?_))
      clear hK37
      refine wp_seq' fun K38 hK38 => ?_
      refine wp_seq' fun K39 hK39 => ?_
      refine wp_reg ?_
      refine ol_r (r_move rfl) rfl ?_
      refine ol_r (r_geq rfl rfl) rfl ?_
      refine ol_nil (to_k0 (fun _ _ h => h) (hK39 _ _ _ _ _ ?_))
      clear hK39
      first | refine wp_condD rfl (fun hc63 => ?_) (fun hc63 => ?_) | refine wp_condN rfl (fun hc63 => ?_) (fun hc63 => ?_) | refine wp_condNB rfl (fun hc63 => ?_) (fun hc63 => ?_) | refine wp_cond' rfl (fun hc63 => ?_) (fun hc63 => ?_)
      ·refine wp_regq (by kernel_rfl) (by kernel_rfl) ?_
       refine ql_r (r_move rfl) rfl ?_
       refine ql_r (r_move rfl) rfl ?_
       have m1 := mul_bd (a := lenD p q) (b := (j : Int) + 1) (A := 300000000) (B := 1000000) (by omega) (by omega) (by omega) (by omega)
       have m2 := mul_bd (a := lenD p q) (b := (j : Int)) (A := 300000000) (B := 1000000) (by omega) (by omega) (by omega) (by omega)
       have m3 := mul_bd (a := max 0 (q.z - p.z)) (b := (j : Int) + 1) (A := 300000000) (B := 1000000) (by omega) (by omega) (by omega) (by omega)
       have m4 := mul_bd (a := max 0 (q.z - p.z)) (b := (j : Int)) (A := 300000000) (B := 1000000) (by omega) (by omega) (by omega) (by omega)
       have d1 := spread_bd (v := lenD p q) (n := q.at_ - p.at_) (j := j) (by omega) (by omega)
       have d2 := spread_bd (v := max 0 (q.z - p.z)) (n := q.at_ - p.at_) (j := j) (by omega) (by omega)
       refine ql_r (r_add rfl rfl (by omega)) rfl ?_
       refine ql_r (r_mul rfl rfl (by omega)) rfl ?_
       refine ql_r (r_move rfl) rfl ?_
       first | refine ql_r (r_quo rfl rfl (by omega)) rfl ?_ | refine ql_r (r_tquo rfl rfl (by omega)) rfl ?_
       refine ql_r (r_move rfl) rfl ?_
       refine ql_r (r_move rfl) rfl ?_
       refine ql_r (r_mul rfl rfl (by omega)) rfl ?_
       refine ql_r (r_move rfl) rfl ?_
       first | refine ql_r (r_quo rfl rfl (by omega)) rfl ?_ | refine ql_r (r_tquo rfl rfl (by omega)) rfl ?_
       refine ql_r (r_sub rfl rfl (by omega)) rfl ?_
       refine ql_r (r_assign rfl) rfl ?_
       refine ql_nil (to_k0 (fun _ _ h => h) (hK38 _ _ _ _ _ ?_))
       clear hK38
       refine wp_seq' fun K40 hK40 => ?_
       refine wp_seq' fun K41 hK41 => ?_
       refine wp_reg ?_
       refine ol_r (r_move rfl) rfl ?_
       refine ol_nil (to_k0 (fun _ _ h => h) (hK41 _ _ _ _ _ ?_))
       clear hK41
       first | refine wp_condD rfl (fun hc76 => ?_) (fun hc76 => ?_) | refine wp_condN rfl (fun hc76 => ?_) (fun hc76 => ?_) | refine wp_condNB rfl (fun hc76 => ?_) (fun hc76 => ?_) | refine wp_cond' rfl (fun hc76 => ?_) (fun hc76 => ?_)
       ·refine wp_seq' fun K42 hK42 => ?_
        refine wp_reg ?_
        refine ol_r (r_assign rfl) rfl ?_
        refine ol_nil (to_k0 (fun _ _ h => h) (hK42 _ _ _ _ _ ?_))
        clear hK42
        refine wp_seq' fun K43 hK43 => ?_
        refine wp_reg ?_
        refine ol_r (r_move rfl) rfl ?_
        refine ol_r (r_geq rfl rfl) rfl ?_
        refine ol_nil (to_k0 (fun _ _ h => h) (hK43 _ _ _ _ _ ?_))
        clear hK43
        first | refine wp_condD rfl (fun hc78 => ?_) (fun hc78 => ?_) | refine wp_condN rfl (fun hc78 => ?_) (fun hc78 => ?_) | refine wp_condNB rfl (fun hc78 => ?_) (fun hc78 => ?_) | refine wp_cond' rfl (fun hc78 => ?_) (fun hc78 => ?_)
        ·refine wp_reg ?_
         refine ol_r (r_assign rfl) rfl ?_
         refine ol_nil (to_k0 (fun _ _ h => h) (hK40 _ _ _ _ _ ?_))
         clear hK40
         refine wp_reg ?_
         refine ol_r (r_move rfl) rfl ?_
         refine ol_r (r_move rfl) rfl ?_
         refine ol_bs1 81 rfl rfl rw22 rfl rfl rfl fun a81 => ?_
         refine ol_append1 (id := 10) (id2 := 81) rfl rfl rfl rfl rfl rw22 (by omega) rfl fun a82 c82 => ?_
         refine ol_r (r_assign rfl) rfl ?_
         refine ol_nil (to_k0 (fun _ _ h => h) (hK35 _ _ _ _ _ ?_))
         clear hK35
         refine wp_reg ?_
         refine ol_r (r_add rfl rfl (by omega)) rfl ?_
         refine ol_r (r_move rfl) rfl ?_
         refine ol_nil (to_k0 (fun _ _ h => h) (hK32 ((j + 1, _, _, _)) _ _ ?_ ?_ (sub_cons rfl (sub_cons rfl sub_nil)) (sub_cons rfl (sub_cons rfl (sub_cons rfl (sub_cons rfl (sub_cons rfl (sub_cons rfl (sub_cons rfl sub_nil))))))) (by exact (subH_row rfl (by first | (dsimp only; first | (exfalso; omega) | (rw [stepV_snoc (by omega) (elV_big (by omega) (by omega)), encI_snoc]; done) | (rw [stepV_snoc (by omega) (elV_gap (by omega) (by omega)), encI_snoc]; done) | (rw [stepV_snoc (by omega) (elV_len (by omega) (by omega)), lenV_4 (by omega), encI_snoc]; done) | (rw [stepV_snoc (by omega) (elV_len (by omega) (by omega)), lenV_6 (by omega), encI_snoc]; done) | (rw [stepV_snoc (by omega) (elV_valF (by omega) (by omega) (by omega)), encI_snoc]; done); done) | (first | (exfalso; omega) | (rw [stepV_snoc (by omega) (elV_big (by omega) (by omega)), encI_snoc]; done) | (rw [stepV_snoc (by omega) (elV_gap (by omega) (by omega)), encI_snoc]; done) | (rw [stepV_snoc (by omega) (elV_len (by omega) (by omega)), lenV_4 (by omega), encI_snoc]; done) | (rw [stepV_snoc (by omega) (elV_len (by omega) (by omega)), lenV_6 (by omega), encI_snoc]; done) | (rw [stepV_snoc (by omega) (elV_valF (by omega) (by omega) (by omega)), encI_snoc]; done); done) | (dsimp only; done)) subH_nil)) (subH_same rfl (subH_same rfl subH_nil))))
         ·try dsimp only
          exact ⟨by omega, by omega⟩
         ·try dsimp only
          omega
        ·refine wp_skip' (to_k0 (fun _ _ h => h) (hK40 _ _ _ _ _ ?_))
         clear hK40
         refine wp_reg ?_
         refine ol_r (r_move rfl) rfl ?_
         refine ol_r (r_move rfl) rfl ?_
         refine ol_bs1 81 rfl rfl rw22 rfl rfl rfl fun a81 => ?_
         refine ol_append1 (id := 10) (id2 := 81) rfl rfl rfl rfl rfl rw22 (by omega) rfl fun a82 c82 => ?_
         refine ol_r (r_assign rfl) rfl ?_
         refine ol_nil (to_k0 (fun _ _ h => h) (hK35 _ _ _ _ _ ?_))
         clear hK35
         refine wp_reg ?_
         refine ol_r (r_add rfl rfl (by omega)) rfl ?_
         refine ol_r (r_move rfl) rfl ?_
         refine ol_nil (to_k0 (fun _ _ h => h) (hK32 ((j + 1, _, _, _)) _ _ ?_ ?_ (sub_cons rfl (sub_cons rfl sub_nil)) (sub_cons rfl (sub_cons rfl (sub_cons rfl (sub_cons rfl (sub_cons rfl (sub_cons rfl (sub_cons rfl sub_nil))))))) (by exact (subH_row rfl (by first | (dsimp only; first | (exfalso; omega) | (rw [stepV_snoc (by omega) (elV_big (by omega) (by omega)), encI_snoc]; done) | (rw [stepV_snoc (by omega) (elV_gap (by omega) (by omega)), encI_snoc]; done) | (rw [stepV_snoc (by omega) (elV_len (by omega) (by omega)), lenV_4 (by omega), encI_snoc]; done) | (rw [stepV_snoc (by omega) (elV_len (by omega) (by omega)), lenV_6 (by omega), encI_snoc]; done) | (rw [stepV_snoc (by omega) (elV_valF (by omega) (by omega) (by omega)), encI_snoc]; done); done) | (first | (exfalso; omega) | (rw [stepV_snoc (by omega) (elV_big (by omega) (by omega)), encI_snoc]; done) | (rw [stepV_snoc (by omega) (elV_gap (by omega) (by omega)), encI_snoc]; done) | (rw [stepV_snoc (by omega) (elV_len (by omega) (by omega)), lenV_4 (by omega), encI_snoc]; done) | (rw [stepV_snoc (by omega) (elV_len (by omega) (by omega)), lenV_6 (by omega), encI_snoc]; done) | (rw [stepV_snoc (by omega) (elV_valF (by omega) (by omega) (by omega)), encI_snoc]; done); done) | (dsimp only; done)) subH_nil)) (subH_same rfl (subH_same rfl subH_nil))))
         ·try dsimp only
          exact ⟨by omega, by omega⟩
         ·try dsimp only
          omega
       ·refine wp_skip' (to_k0 (fun _ _ h => h) (hK40 _ _ _ _ _ ?_))
        clear hK40
        refine wp_reg ?_
        refine ol_r (r_move rfl) rfl ?_
        refine ol_r (r_move rfl) rfl ?_
        refine ol_bs1 81 rfl rfl rw22 rfl rfl rfl fun a81 => ?_
        refine ol_append1 (id := 10) (id2 := 81) rfl rfl rfl rfl rfl rw22 (by omega) rfl fun a82 c82 => ?_
        refine ol_r (r_assign rfl) rfl ?_
        refine ol_nil (to_k0 (fun _ _ h => h) (hK35 _ _ _ _ _ ?_))
        clear hK35
        refine wp_reg ?_
        refine ol_r (r_add rfl rfl (by omega)) rfl ?_
        refine ol_r (r_move rfl) rfl ?_
        refine ol_nil (to_k0 (fun _ _ h => h) (hK32 ((j + 1, _, _, _)) _ _ ?_ ?_ (sub_cons rfl (sub_cons rfl sub_nil)) (sub_cons rfl (sub_cons rfl (sub_cons rfl (sub_cons rfl (sub_cons rfl (sub_cons rfl (sub_cons rfl sub_nil))))))) (by exact (subH_row rfl (by first | (dsimp only; first | (exfalso; omega) | (rw [stepV_snoc (by omega) (elV_big (by omega) (by omega)), encI_snoc]; done) | (rw [stepV_snoc (by omega) (elV_gap (by omega) (by omega)), encI_snoc]; done) | (rw [stepV_snoc (by omega) (elV_len (by omega) (by omega)), lenV_4 (by omega), encI_snoc]; done) | (rw [stepV_snoc (by omega) (elV_len (by omega) (by omega)), lenV_6 (by omega), encI_snoc]; done) | (rw [stepV_snoc (by omega) (elV_valF (by omega) (by omega) (by omega)), encI_snoc]; done); done) | (first | (exfalso; omega) | (rw [stepV_snoc (by omega) (elV_big (by omega) (by omega)), encI_snoc]; done) | (rw [stepV_snoc (by omega) (elV_gap (by omega) (by omega)), encI_snoc]; done) | (rw [stepV_snoc (by omega) (elV_len (by omega) (by omega)), lenV_4 (by omega), encI_snoc]; done) | (rw [stepV_snoc (by omega) (elV_len (by omega) (by omega)), lenV_6 (by omega), encI_snoc]; done) | (rw [stepV_snoc (by omega) (elV_valF (by omega) (by omega) (by omega)), encI_snoc]; done); done) | (dsimp only; done)) subH_nil)) (subH_same rfl (subH_same rfl subH_nil))))
        ·try dsimp only
         exact ⟨by omega, by omega⟩
        ·try dsimp only
         omega
      ·refine wp_skip' (to_k0 (fun _ _ h => h) (hK38 _ _ _ _ _ ?_))
       clear hK38
       refine wp_seq' fun K44 hK44 => ?_
       refine wp_seq' fun K45 hK45 => ?_
       refine wp_reg ?_
       refine ol_r (r_move rfl) rfl ?_
       refine ol_nil (to_k0 (fun _ _ h => h) (hK45 _ _ _ _ _ ?_))
       clear hK45
       first | refine wp_condD rfl (fun hc76 => ?_) (fun hc76 => ?_) | refine wp_condN rfl (fun hc76 => ?_) (fun hc76 => ?_) | refine wp_condNB rfl (fun hc76 => ?_) (fun hc76 => ?_) | refine wp_cond' rfl (fun hc76 => ?_) (fun hc76 => ?_)
       ·refine wp_seq' fun K46 hK46 => ?_
        refine wp_reg ?_
        refine ol_r (r_assign rfl) rfl ?_
        refine ol_nil (to_k0 (fun _ _ h => h) (hK46 _ _ _ _ _ ?_))
        clear hK46
        refine wp_seq' fun K47 hK47 => ?_
        refine wp_reg ?_
        refine ol_r (r_move rfl) rfl ?_
        refine ol_r (r_geq rfl rfl) rfl ?_
        refine ol_nil (to_k0 (fun _ _ h => h) (hK47 _ _ _ _ _ ?_))
        clear hK47
        first | refine wp_condD rfl (fun hc78 => ?_) (fun hc78 => ?_) | refine wp_condN rfl (fun hc78 => ?_) (fun hc78 => ?_) | refine wp_condNB rfl (fun hc78 => ?_) (fun hc78 => ?_) | refine wp_cond' rfl (fun hc78 => ?_) (fun hc78 => ?_)
        ·refine wp_reg ?_
         refine ol_r (r_assign rfl) rfl ?_
         refine ol_nil (to_k0 (fun _ _ h => h) (hK44 _ _ _ _ _ ?_))
         clear hK44
         refine wp_reg ?_
         refine ol_r (r_move rfl) rfl ?_
         refine ol_r (r_move rfl) rfl ?_
         refine ol_bs1 81 rfl rfl rw22 rfl rfl rfl fun a81 => ?_
         refine ol_append1 (id := 10) (id2 := 81) rfl rfl rfl rfl rfl rw22 (by omega) rfl fun a82 c82 => ?_
         refine ol_r (r_assign rfl) rfl ?_
         refine ol_nil (to_k0 (fun _ _ h => h) (hK35 _ _ _ _ _ ?_))
         clear hK35
         refine wp_reg ?_
         refine ol_r (r_add rfl rfl (by omega)) rfl ?_
         refine ol_r (r_move rfl) rfl ?_
         refine ol_nil (to_k0 (fun _ _ h => h) (hK32 ((j + 1, _, _, _)) _ _ ?_ ?_ (sub_cons rfl (sub_cons rfl sub_nil)) (sub_cons rfl (sub_cons rfl (sub_cons rfl (sub_cons rfl (sub_cons rfl (sub_cons rfl (sub_cons rfl sub_nil))))))) (by exact (subH_row rfl (by first | (dsimp only; first | (exfalso; omega) | (rw [stepV_snoc (by omega) (elV_big (by omega) (by omega)), encI_snoc]; done) | (rw [stepV_snoc (by omega) (elV_gap (by omega) (by omega)), encI_snoc]; done) | (rw [stepV_snoc (by omega) (elV_len (by omega) (by omega)), lenV_4 (by omega), encI_snoc]; done) | (rw [stepV_snoc (by omega) (elV_len (by omega) (by omega)), lenV_6 (by omega), encI_snoc]; done) | (rw [stepV_snoc (by omega) (elV_valF (by omega) (by omega) (by omega)), encI_snoc]; done); done) | (first | (exfalso; omega) | (rw [stepV_snoc (by omega) (elV_big (by omega) (by omega)), encI_snoc]; done) | (rw [stepV_snoc (by omega) (elV_gap (by omega) (by omega)), encI_snoc]; done) | (rw [stepV_snoc (by omega) (elV_len (by omega) (by omega)), lenV_4 (by omega), encI_snoc]; done) | (rw [stepV_snoc (by omega) (elV_len (by omega) (by omega)), lenV_6 (by omega), encI_snoc]; done) | (rw [stepV_snoc (by omega) (elV_valF (by omega) (by omega) (by omega)), encI_snoc]; done); done) | (dsimp only; done)) subH_nil)) (subH_same rfl (subH_same rfl subH_nil))))
         ·try dsimp only
          exact ⟨by omega, by omega⟩
         ·try dsimp only
          omega
        ·refine wp_skip' (to_k0 (fun _ _ h => h) (hK44 _ _ _ _ _ ?_))
         clear hK44
         refine wp_reg ?_
         refine ol_r (r_move rfl) rfl ?_
         refine ol_r (r_move rfl) rfl ?_
         refine ol_bs1 81 rfl rfl rw22 rfl rfl rfl fun a81 => ?_
         refine ol_append1 (id := 10) (id2 := 81) rfl rfl rfl rfl rfl rw22 (by omega) rfl fun a82 c82 => ?_
         refine ol_r (r_assign rfl) rfl ?_
         refine ol_nil (to_k0 (fun _ _ h => h) (hK35 _ _ _ _ _ ?_))
         clear hK35
         refine wp_reg ?_
         refine ol_r (r_add rfl rfl (by omega)) rfl ?_
         refine ol_r (r_move rfl) rfl ?_
         refine ol_nil (to_k0 (fun _ _ h => h) (hK32 ((j + 1, _, _, _)) _ _ ?_ ?_ (sub_cons rfl (sub_cons rfl sub_nil)) (sub_cons rfl (sub_cons rfl (sub_cons rfl (sub_cons rfl (sub_cons rfl (sub_cons rfl (sub_cons rfl sub_nil))))))) (by exact (subH_row rfl (by first | (dsimp only; first | (exfalso; omega) | (rw [stepV_snoc (by omega) (elV_big (by omega) (by omega)), encI_snoc]; done) | (rw [stepV_snoc (by omega) (elV_gap (by omega) (by omega)), encI_snoc]; done) | (rw [stepV_snoc (by omega) (elV_len (by omega) (by omega)), lenV_4 (by omega), encI_snoc]; done) | (rw [stepV_snoc (by omega) (elV_len (by omega) (by omega)), lenV_6 (by omega), encI_snoc]; done) | (rw [stepV_snoc (by omega) (elV_valF (by omega) (by omega) (by omega)), encI_snoc]; done); done) | (first | (exfalso; omega) | (rw [stepV_snoc (by omega) (elV_big (by omega) (by omega)), encI_snoc]; done) | (rw [stepV_snoc (by omega) (elV_gap (by omega) (by omega)), encI_snoc]; done) | (rw [stepV_snoc (by omega) (elV_len (by omega) (by omega)), lenV_4 (by omega), encI_snoc]; done) | (rw [stepV_snoc (by omega) (elV_len (by omega) (by omega)), lenV_6 (by omega), encI_snoc]; done) | (rw [stepV_snoc (by omega) (elV_valF (by omega) (by omega) (by omega)), encI_snoc]; done); done) | (dsimp only; done)) subH_nil)) (subH_same rfl (subH_same rfl subH_nil))))
         ·try dsimp only
          exact ⟨by omega, by omega⟩
         ·try dsimp only
          omega
       ·refine wp_skip' (to_k0 (fun _ _ h => h) (hK44 _ _ _ _ _ ?_))
        clear hK44
        refine wp_reg ?_
        refine ol_r (r_move rfl) rfl ?_
        refine ol_r (r_move rfl) rfl ?_
        refine ol_bs1 81 rfl rfl rw22 rfl rfl rfl fun a81 => ?_
        refine ol_append1 (id := 10) (id2 := 81) rfl rfl rfl rfl rfl rw22 (by omega) rfl fun a82 c82 => ?_
        refine ol_r (r_assign rfl) rfl ?_
        refine ol_nil (to_k0 (fun _ _ h => h) (hK35 _ _ _ _ _ ?_))
        clear hK35
        refine wp_reg ?_
        refine ol_r (r_add rfl rfl (by omega)) rfl ?_
        refine ol_r (r_move rfl) rfl ?_
        refine ol_nil (to_k0 (fun _ _ h => h) (hK32 ((j + 1, _, _, _)) _ _ ?_ ?_ (sub_cons rfl (sub_cons rfl sub_nil)) (sub_cons rfl (sub_cons rfl (sub_cons rfl (sub_cons rfl (sub_cons rfl (sub_cons rfl (sub_cons rfl sub_nil))))))) (by exact (subH_row rfl (by first | (dsimp only; first | (exfalso; omega) | (rw [stepV_snoc (by omega) (elV_big (by omega) (by omega)), encI_snoc]; done) | (rw [stepV_snoc (by omega) (elV_gap (by omega) (by omega)), encI_snoc]; done) | (rw [stepV_snoc (by omega) (elV_len (by omega) (by omega)), lenV_4 (by omega), encI_snoc]; done) | (rw [stepV_snoc (by omega) (elV_len (by omega) (by omega)), lenV_6 (by omega), encI_snoc]; done) | (rw [stepV_snoc (by omega) (elV_valF (by omega) (by omega) (by omega)), encI_snoc]; done); done) | (first | (exfalso; omega) | (rw [stepV_snoc (by omega) (elV_big (by omega) (by omega)), encI_snoc]; done) | (rw [stepV_snoc (by omega) (elV_gap (by omega) (by omega)), encI_snoc]; done) | (rw [stepV_snoc (by omega) (elV_len (by omega) (by omega)), lenV_4 (by omega), encI_snoc]; done) | (rw [stepV_snoc (by omega) (elV_len (by omega) (by omega)), lenV_6 (by omega), encI_snoc]; done) | (rw [stepV_snoc (by omega) (elV_valF (by omega) (by omega) (by omega)), encI_snoc]; done); done) | (dsimp only; done)) subH_nil)) (subH_same rfl (subH_same rfl subH_nil))))
        ·try dsimp only
         exact ⟨by omega, by omega⟩
        ·try dsimp only
         omega
     ·refine wp_exit' (to_k0 (fun _ _ h => h) (hK30 _ _ _ _ _ ?_))
      clear hK30
      refine wp_seq' fun K48 hK48 => ?_
      refine wp_reg ?_
      refine ol_r (r_move rfl) rfl ?_
      refine ol_r (r_assign rfl) rfl ?_
      refine ol_nil (to_k0 (fun _ _ h => h) (hK48 _ _ _ _ _ ?_))
      clear hK48
      refine hQ.ret (rvs1 (rv_t rfl)) (fun _ _ h => h) fun w hb hs hB hkd => ?_
      have hjj : (j : Int) = q.at_ - p.at_ := by omega
      have h9 := hs.ok 10 _ rfl
      rw [List.take_of_length_le (by rw [stepV_len]; omega)] at h9
      exact ⟨_, _, _, rfl, hb, h9⟩
   ·refine wp_skip' (to_k0 (fun _ _ h => h) (hK5 _ _ _ _ _ ?_))
    clear hK5
    refine wp_seq' fun K49 hK49 => ?_
    refine wp_reg ?_
    refine ol_nilrow 10 3 1 ?_
    refine ol_r (r_assign rfl) rfl ?_
    refine ol_nil (to_k0 (fun _ _ h => h) (hK49 _ _ _ _ _ ?_))
    clear hK49
    refine wp_seq' fun K50 hK50 => ?_
    refine wp_seq' fun K51 hK51 => ?_
    refine wp_reg ?_
    refine ol_r (r_move rfl) rfl ?_
    refine ol_r (r_move rfl) rfl ?_
    refine ol_nil (to_k0 (fun _ _ h => h) (hK51 _ _ _ _ _ ?_))
    clear hK51
    refine wp_block' ?_
    apply wp_loopM (σ := Nat × Option Addr × Nat × Nat) (fun s => (s.1 : Int) ≤ q.at_ - p.at_ ∧ s.2.2.1 = s.1) (fun s => [(56, .int .i64 s.1), (10, .slice s.2.1 s.2.2.1 s.2.2.2)]) [(2, _), (3, _), (6, _), (7, _), (8, _), (9, _), (55, _)] (fun s => [(10, .row s.2.1 s.2.2.1 s.2.2.2 (encI.enc ((stepV kind p q).take s.1)) 3 1)]) [(3, _), (4, _)] (fun s => (q.at_ - p.at_).toNat - s.1) ((0, none, 0, 0))
    ·try dsimp only
     exact ⟨by omega, rfl⟩
    ·exact (sub_cons rfl (sub_cons rfl sub_nil))
    ·exact (sub_cons rfl (sub_cons rfl (sub_cons rfl (sub_cons rfl (sub_cons rfl (sub_cons rfl (sub_cons rfl sub_nil)))))))
    ·exact (subH_row rfl (by first | (dsimp only; rfl; done) | (rfl; done) | (dsimp only; done)) subH_nil)
    ·exact (subH_same rfl (subH_same rfl subH_nil))
    ·rintro ⟨j, ja, jn, jc⟩ ⟨hj, hjn⟩
     dsimp only at hj hjn ⊢
     intro K52 hK52
     refine wp_seq' fun K53 hK53 => ?_
     refine wp_reg ?_
     refine ol_r (r_lss rfl rfl) rfl ?_
     refine ol_nil (to_k0 (fun _ _ h => h) (hK53 _ _ _ _ _ ?_))
     clear hK53
     refine wp_seq' fun K54 hK54 => ?_
     first | refine wp_condD rfl (fun hc57 => ?_) (fun hc57 => ?_) | refine wp_condN rfl (fun hc57 => ?_) (fun hc57 => ?_) | refine wp_condNB rfl (fun hc57 => ?_) (fun hc57 => ?_) | refine wp_cond' rfl (fun hc57 => ?_) (fun hc57 => ?_)
     ·refine wp_skip' (to_k0 (fun _ _ h => h) (hK54 _ _ _ _ _ ?_))
      clear hK54
      refine wp_seq' fun K55 hK55 => ?_
      refine wp_block' ?_
      refine wp_seq' fun K56 hK56 => ?_
      refine wp_reg ?_
      refine ol_r (r_move rfl) rfl ?_
      refine ol_r (r_assign rfl) rfl ?_
      refine ol_nil (to_k0 (fun _ _ h => h) (hK56 _ _ _ _ _ ?_))
      clear hK56
      refine wp_seq' fun K57 hK57 => ?_
      refine wp_reg ?_
      refine ol_r (r_lda (id := 3) (n := 7) rfl rfl rfl ag111) rfl ?_
      refine ol_r (r_move rfl) rfl ?_
      refine ol_call rfl rfl cb126 rfl (fun w1 hb1 hs1 hB1 => Calls.mono (ref4_valueOf _ _ _) ?_)
      rintro e w2 ⟨rfl, hb2⟩
      refine After.below rfl hb1 hs1 hB1 hb2 ?_
      clear hb2 hB1 hs1 hb1 w2 w1
      refine ol_r (r_assign rfl) rfl ?_
      refine ol_nil (to_k0 (fun _ _ h => h) (hK57 _ _ _ _ _ ?_))
      clear hK57
      refine wp_seq' fun K58 hK58 => ?_
      refine wp_seq' fun K59 hK59 => ?_
      refine wp_reg ?_
      refine ol_r (r_move rfl) rfl ?_
      refine ol_r (r_geq rfl rfl) rfl ?_
      refine ol_nil (to_k0 (fun _ _ h => h) (hK59 _ _ _ _ _ ?_))
      clear hK59
      first | refine wp_condD rfl (fun hc63 => ?_) (fun hc63 => ?_) | refine wp_condN rfl (fun hc63 => ?_) (fun hc63 => ?_) | refine wp_condNB rfl (fun hc63 => ?_) (fun hc63 => ?_) | refine wp_cond' rfl (fun hc63 => ?_) (fun hc63 => ?_)
      ·refine wp_regq (by kernel_rfl) (by kernel_rfl) ?_
       refine ql_r (r_move rfl) rfl ?_
       refine ql_r (r_move rfl) rfl ?_
       have m1 := mul_bd (a := lenD p q) (b := (j : Int) + 1) (A := 300000000) (B := 1000000) (by omega) (by omega) (by omega) (by omega)
       have m2 := mul_bd (a := lenD p q) (b := (j : Int)) (A := 300000000) (B := 1000000) (by omega) (by omega) (by omega) (by omega)
       have m3 := mul_bd (a := max 0 (q.z - p.z)) (b := (j : Int) + 1) (A := 300000000) (B := 1000000) (by omega) (by omega) (by omega) (by omega)
       have m4 := mul_bd (a := max 0 (q.z - p.z)) (b := (j : Int)) (A := 300000000) (B := 1000000) (by omega) (by omega) (by omega) (by omega)
       have d1 := spread_bd (v := lenD p q) (n := q.at_ - p.at_) (j := j) (by omega) (by omega)
       have d2 := spread_bd (v := max 0 (q.z - p.z)) (n := q.at_ - p.at_) (j := j) (by omega) (by omega)
       refine ql_r (r_add rfl rfl (by omega)) rfl ?_
       refine ql_r (r_mul rfl rfl (by omega)) rfl ?_
       refine ql_r (r_move rfl) rfl ?_
       first | refine ql_r (r_quo rfl rfl (by omega)) rfl ?_ | refine ql_r (r_tquo rfl rfl (by omega)) rfl ?_
       refine ql_r (r_move rfl) rfl ?_
       refine ql_r (r_move rfl) rfl ?_
       refine ql_r (r_mul rfl rfl (by omega)) rfl ?_
       refine ql_r (r_move rfl) rfl ?_
       first | refine ql_r (r_quo rfl rfl (by omega)) rfl ?_ | refine ql_r (r_tquo rfl rfl (by omega)) rfl ?_
       refine ql_r (r_sub rfl rfl (by omega)) rfl ?_
       refine ql_r (r_assign rfl) rfl ?_
       refine ql_nil (to_k0 (fun _ _ h => h) (hK58 _ _ _ _ _ ?_))
       clear hK58
       refine wp_seq' fun K60 hK60 => ?_
       refine wp_seq' fun K61 hK61 => ?_
       refine wp_reg ?_
       refine ol_r (r_move rfl) rfl ?_
       refine ol_nil (to_k0 (fun _ _ h => h) (hK61 _ _ _ _ _ ?_))
       clear hK61
       first | refine wp_condD rfl (fun hc76 => ?_) (fun hc76 => ?_) | refine wp_condN rfl (fun hc76 => ?_) (fun hc76 => ?_) | refine wp_condNB rfl (fun hc76 => ?_) (fun hc76 => ?_) | refine wp_cond' rfl (fun hc76 => ?_) (fun hc76 => ?_)
       ·refine wp_seq' fun K62 hK62 => ?_
        refine wp_reg ?_
        refine ol_r (r_assign rfl) rfl ?_
        refine ol_nil (to_k0 (fun _ _ h => h) (hK62 _ _ _ _ _ ?_))
        clear hK62
        refine wp_seq' fun K63 hK63 => ?_
        refine wp_reg ?_
        refine ol_r (r_move rfl) rfl ?_
        refine ol_r (r_geq rfl rfl) rfl ?_
        refine ol_nil (to_k0 (fun _ _ h => h) (hK63 _ _ _ _ _ ?_))
        clear hK63
        first | refine wp_condD rfl (fun hc78 => ?_) (fun hc78 => ?_) | refine wp_condN rfl (fun hc78 => ?_) (fun hc78 => ?_) | refine wp_condNB rfl (fun hc78 => ?_) (fun hc78 => ?_) | refine wp_cond' rfl (fun hc78 => ?_) (fun hc78 => ?_)
        ·refine wp_reg ?_
         refine ol_r (r_assign rfl) rfl ?_
         refine ol_nil (to_k0 (fun _ _ h => h) (hK60 _ _ _ _ _ ?_))
         clear hK60
         refine wp_reg ?_
         refine ol_r (r_move rfl) rfl ?_
         refine ol_r (r_move rfl) rfl ?_
         refine ol_bs1 81 rfl rfl rw22 rfl rfl rfl fun a81 => ?_
         refine ol_append1 (id := 10) (id2 := 81) rfl rfl rfl rfl rfl rw22 (by omega) rfl fun a82 c82 => ?_
         refine ol_r (r_assign rfl) rfl ?_
         refine ol_nil (to_k0 (fun _ _ h => h) (hK55 _ _ _ _ _ ?_))
         clear hK55
         refine wp_reg ?_
         refine ol_r (r_add rfl rfl (by omega)) rfl ?_
         refine ol_r (r_move rfl) rfl ?_
         refine ol_nil (to_k0 (fun _ _ h => h) (hK52 ((j + 1, _, _, _)) _ _ ?_ ?_ (sub_cons rfl (sub_cons rfl sub_nil)) (sub_cons rfl (sub_cons rfl (sub_cons rfl (sub_cons rfl (sub_cons rfl (sub_cons rfl (sub_cons rfl sub_nil))))))) (by exact (subH_row rfl (by first | (dsimp only; first | (exfalso; omega) | (rw [stepV_snoc (by omega) (elV_big (by omega) (by omega)), encI_snoc]; done) | (rw [stepV_snoc (by omega) (elV_gap (by omega) (by omega)), encI_snoc]; done) | (rw [stepV_snoc (by omega) (elV_len (by omega) (by omega)), lenV_4 (by omega), encI_snoc]; done) | (rw [stepV_snoc (by omega) (elV_len (by omega) (by omega)), lenV_6 (by omega), encI_snoc]; done) | (rw [stepV_snoc (by omega) (elV_valF (by omega) (by omega) (by omega)), encI_snoc]; done); done) | (first | (exfalso; omega) | (rw [stepV_snoc (by omega) (elV_big (by omega) (by omega)), encI_snoc]; done) | (rw [stepV_snoc (by omega) (elV_gap (by omega) (by omega)), encI_snoc]; done) | (rw [stepV_snoc (by omega) (elV_len (by omega) (by omega)), lenV_4 (by omega), encI_snoc]; done) | (rw [stepV_snoc (by omega) (elV_len (by omega) (by omega)), lenV_6 (by omega), encI_snoc]; done) | (rw [stepV_snoc (by omega) (elV_valF (by omega) (by omega) (by omega)), encI_snoc]; done); done) | (dsimp only; done)) subH_nil)) (subH_same rfl (subH_same rfl subH_nil))))
         ·try dsimp only
          exact ⟨by omega, by omega⟩
         ·try dsimp only
          omega
        ·refine wp_skip' (to_k0 (fun _ _ h => h) (hK60 _ _ _ _ _ ?_))
         clear hK60
         refine wp_reg ?_
         refine ol_r (r_move rfl) rfl ?_
         refine ol_r (r_move rfl) rfl ?_
         refine ol_bs1 81 rfl rfl rw22 rfl rfl rfl fun a81 => ?_
         refine ol_append1 (id := 10) (id2 := 81) rfl rfl rfl rfl rfl rw22 (by omega) rfl fun a82 c82 => ?_
         refine ol_r (r_assign rfl) rfl ?_
         refine ol_nil (to_k0 (fun _ _ h => h) (hK55 _ _ _ _ _ ?_))
         clear hK55
         refine wp_reg ?_
         refine ol_r (r_add rfl rfl (by omega)) rfl ?_
         refine ol_r (r_move rfl) rfl ?_
         refine ol_nil (to_k0 (fun _ _ h => h) (hK52 ((j + 1, _, _, _)) _ _ ?_ ?_ (sub_cons rfl (sub_cons rfl sub_nil)) (sub_cons rfl (sub_cons rfl (sub_cons rfl (sub_cons rfl (sub_cons rfl (sub_cons rfl (sub_cons rfl sub_nil))))))) (by exact (subH_row rfl (by first | (dsimp only; first | (exfalso; omega) | (rw [stepV_snoc (by omega) (elV_big (by omega) (by omega)), encI_snoc]; done) | (rw [stepV_snoc (by omega) (elV_gap (by omega) (by omega)), encI_snoc]; done) | (rw [stepV_snoc (by omega) (elV_len (by omega) (by omega)), lenV_4 (by omega), encI_snoc]; done) | (rw [stepV_snoc (by omega) (elV_len (by omega) (by omega)), lenV_6 (by omega), encI_snoc]; done) | (rw [stepV_snoc (by omega) (elV_valF (by omega) (by omega) (by omega)), encI_snoc]; done); done) | (first | (exfalso; omega) | (rw [stepV_snoc (by omega) (elV_big (by omega) (by omega)), encI_snoc]; done) | (rw [stepV_snoc (by omega) (elV_gap (by omega) (by omega)), encI_snoc]; done) | (rw [stepV_snoc (by omega) (elV_len (by omega) (by omega)), lenV_4 (by omega), encI_snoc]; done) | (rw [stepV_snoc (by omega) (elV_len (by omega) (by omega)), lenV_6 (by omega), encI_snoc]; done) | (rw [stepV_snoc (by omega) (elV_valF (by omega) (by omega) (by omega)), encI_snoc]; done); done) | (dsimp only; done)) subH_nil)) (subH_same rfl (subH_same rfl subH_nil))))
         ·try dsimp only
          exact ⟨by omega, by omega⟩
         ·try dsimp only
          omega
       ·refine wp_skip' (to_k0 (fun _ _ h => h) (hK60 _ _ _ _ _ ?_))
        clear hK60
        refine wp_reg ?_
        refine ol_r (r_move rfl) rfl ?_
        refine ol_r (r_move rfl) rfl ?_
        refine ol_bs1 81 rfl rfl rw22 rfl rfl rfl fun a81 => ?_
        refine ol_append1 (id := 10) (id2 := 81) rfl rfl rfl rfl rfl rw22 (by omega) rfl fun a82 c82 => ?_
        refine ol_r (r_assign rfl) rfl ?_
        refine ol_nil (to_k0 (fun _ _ h => h) (hK55 _ _ _ _ _ ?_))
        clear hK55
        refine wp_reg ?_
        refine ol_r (r_add rfl rfl (by omega)) rfl ?_
        refine ol_r (r_move rfl) rfl ?_
        refine ol_nil (to_k0 (fun _ _ h => h) (hK52 ((j + 1, _, _, _)) _ _ ?_ ?_ (sub_cons rfl (sub_cons rfl sub_nil)) (sub_cons rfl (sub_cons rfl (sub_cons rfl (sub_cons rfl (sub_cons rfl (sub_cons rfl (sub_cons rfl sub_nil))))))) (by exact (subH_row rfl (by first | (dsimp only; first | (exfalso; omega) | (rw [stepV_snoc (by omega) (elV_big (by omega) (by omega)), encI_snoc]; done) | (rw [stepV_snoc (by omega) (elV_gap (by omega) (by omega)), encI_snoc]; done) | (rw [stepV_snoc (by omega) (elV_len (by omega) (by omega)), lenV_4 (by omega), encI_snoc]; done) | (rw [stepV_snoc (by omega) (elV_len (by omega) (by omega)), lenV_6 (by omega), encI_snoc]; done) | (rw [stepV_snoc (by omega) (elV_valF (by omega) (by omega) (by omega)), encI_snoc]; done); done) | (first | (exfalso; omega) | (rw [stepV_snoc (by omega) (elV_big (by omega) (by omega)), encI_snoc]; done) | (rw [stepV_snoc (by omega) (elV_gap (by omega) (by omega)), encI_snoc]; done) | (rw [stepV_snoc (by omega) (elV_len (by omega) (by omega)), lenV_4 (by omega), encI_snoc]; done) | (rw [stepV_snoc (by omega) (elV_len (by omega) (by omega)), lenV_6 (by omega), encI_snoc]; done) | (rw [stepV_snoc (by omega) (elV_valF (by omega) (by omega) (by omega)), encI_snoc]; done); done) | (dsimp only; done)) subH_nil)) (subH_same rfl (subH_same rfl subH_nil))))
        ·try dsimp only
         exact ⟨by omega, by omega⟩
        ·try dsimp only
         omega
      ·refine wp_skip' (to_k0 (fun _ _ h => h) (hK58 _ _ _ _ _ ?_))
       clear hK58
       refine wp_seq' fun K64 hK64 => ?_
       refine wp_seq' fun K65 hK65 => ?_
       refine wp_reg ?_
       refine ol_r (r_move rfl) rfl ?_
       refine ol_nil (to_k0 (fun _ _ h => h) (hK65 _ _ _ _ _ ?_))
       clear hK65
       first | refine wp_condD rfl (fun hc76 => ?_) (fun hc76 => ?_) | refine wp_condN rfl (fun hc76 => ?_) (fun hc76 => ?_) | refine wp_condNB rfl (fun hc76 => ?_) (fun hc76 => ?_) | refine wp_cond' rfl (fun hc76 => ?_) (fun hc76 => ?_)
       ·refine wp_seq' fun K66 hK66 => ?_
        refine wp_reg ?_
        refine ol_r (r_assign rfl) rfl ?_
        refine ol_nil (to_k0 (fun _ _ h => h) (hK66 _ _ _ _ _ ?_))
        clear hK66
        refine wp_seq' fun K67 hK67 => ?_
        refine wp_reg ?_
        refine ol_r (r_move rfl) rfl ?_
        refine ol_r (r_geq rfl rfl) rfl ?_
        refine ol_nil (to_k0 (fun _ _ h => h) (hK67 _ _ _ _ _ ?_))
        clear hK67
        first | refine wp_condD rfl (fun hc78 => ?_) (fun hc78 => ?_) | refine wp_condN rfl (fun hc78 => ?_) (fun hc78 => ?_) | refine wp_condNB rfl (fun hc78 => ?_) (fun hc78 => ?_) | refine wp_cond' rfl (fun hc78 => ?_) (fun hc78 => ?_)
        ·refine wp_reg ?_
         refine ol_r (r_assign rfl) rfl ?_
         refine ol_nil (to_k0 (fun _ _ h => h) (hK64 _ _ _ _ _ ?_))
         clear hK64
         refine wp_reg ?_
         refine ol_r (r_move rfl) rfl ?_
         refine ol_r (r_move rfl) rfl ?_
         refine ol_bs1 81 rfl rfl rw22 rfl rfl rfl fun a81 => ?_
         refine ol_append1 (id := 10) (id2 := 81) rfl rfl rfl rfl rfl rw22 (by omega) rfl fun a82 c82 => ?_
         refine ol_r (r_assign rfl) rfl ?_
         refine ol_nil (to_k0 (fun _ _ h => h) (hK55 _ _ _ _ _ ?_))
         clear hK55
         refine wp_reg ?_
         refine ol_r (r_add rfl rfl (by omega)) rfl ?_
         refine ol_r (r_move rfl) rfl ?_
         refine ol_nil (to_k0 (fun _ _ h => h) (hK52 ((j + 1, _, _, _)) _ _ ?_ ?_ (sub_cons rfl (sub_cons rfl sub_nil)) (sub_cons rfl (sub_cons rfl (sub_cons rfl (sub_cons rfl (sub_cons rfl (sub_cons rfl (sub_cons rfl sub_nil))))))) (by exact (subH_row rfl (by first | (dsimp only; first | (exfalso; omega) | (rw [stepV_snoc (by omega) (elV_big (by omega) (by omega)), encI_snoc]; done) | (rw [stepV_snoc (by omega) (elV_gap (by omega) (by omega)), encI_snoc]; done) | (rw [stepV_snoc (by omega) (elV_len (by omega) (by omega)), lenV_4 (by omega), encI_snoc]; done) | (rw [stepV_snoc (by omega) (elV_len (by omega) (by omega)), lenV_6 (by omega), encI_snoc]; done) | (rw [stepV_snoc (by omega) (elV_valF (by omega) (by omega) (by omega)), encI_snoc]; done); done) | (first | (exfalso; omega) | (rw [stepV_snoc (by omega) (elV_big (by omega) (by omega)), encI_snoc]; done) | (rw [stepV_snoc (by omega) (elV_gap (by omega) (by omega)), encI_snoc]; done) | (rw [stepV_snoc (by omega) (elV_len (by omega) (by omega)), lenV_4 (by omega), encI_snoc]; done) | (rw [stepV_snoc (by omega) (elV_len (by omega) (by omega)), lenV_6 (by omega), encI_snoc]; done) | (rw [stepV_snoc (by omega) (elV_valF (by omega) (by omega) (by omega)), encI_snoc]; done); done) | (dsimp only; done)) subH_nil)) (subH_same rfl (subH_same rfl subH_nil))))
         ·try dsimp only
          exact ⟨by omega, by omega⟩
         ·try dsimp only
          omega
        ·refine wp_skip' (to_k0 (fun _ _ h => h) (hK64 _ _ _ _ _ ?_))
         clear hK64
         refine wp_reg ?_
         refine ol_r (r_move rfl) rfl ?_
         refine ol_r (r_move rfl) rfl ?_
         refine ol_bs1 81 rfl rfl rw22 rfl rfl rfl fun a81 => ?_
         refine ol_append1 (id := 10) (id2 := 81) rfl rfl rfl rfl rfl rw22 (by omega) rfl fun a82 c82 => ?_
         refine ol_r (r_assign rfl) rfl ?_
         refine ol_nil (to_k0 (fun _ _ h => h) (hK55 _ _ _ _ _ ?_))
         clear hK55
         refine wp_reg ?_
         refine ol_r (r_add rfl rfl (by omega)) rfl ?_
         refine ol_r (r_move rfl) rfl ?_
         refine ol_nil (to_k0 (fun _ _ h => h) (hK52 ((j + 1, _, _, _)) _ _ ?_ ?_ (sub_cons rfl (sub_cons rfl sub_nil)) (sub_cons rfl (sub_cons rfl (sub_cons rfl (sub_cons rfl (sub_cons rfl (sub_cons rfl (sub_cons rfl sub_nil))))))) (by exact (subH_row rfl (by first | (dsimp only; first | (exfalso; omega) | (rw [stepV_snoc (by omega) (elV_big (by omega) (by omega)), encI_snoc]; done) | (rw [stepV_snoc (by omega) (elV_gap (by omega) (by omega)), encI_snoc]; done) | (rw [stepV_snoc (by omega) (elV_len (by omega) (by omega)), lenV_4 (by omega), encI_snoc]; done) | (rw [stepV_snoc (by omega) (elV_len (by omega) (by omega)), lenV_6 (by omega), encI_snoc]; done) | (rw [stepV_snoc (by omega) (elV_valF (by omega) (by omega) (by omega)), encI_snoc]; done); done) | (first | (exfalso; omega) | (rw [stepV_snoc (by omega) (elV_big (by omega) (by omega)), encI_snoc]; done) | (rw [stepV_snoc (by omega) (elV_gap (by omega) (by omega)), encI_snoc]; done) | (rw [stepV_snoc (by omega) (elV_len (by omega) (by omega)), lenV_4 (by omega), encI_snoc]; done) | (rw [stepV_snoc (by omega) (elV_len (by omega) (by omega)), lenV_6 (by omega), encI_snoc]; done) | (rw [stepV_snoc (by omega) (elV_valF (by omega) (by omega) (by omega)), encI_snoc]; done); done) | (dsimp only; done)) subH_nil)) (subH_same rfl (subH_same rfl subH_nil))))
         ·try dsimp only
          exact ⟨by omega, by omega⟩
         ·try dsimp only
          omega
       ·refine wp_skip' (to_k0 (fun _ _ h => h) (hK64 _ _ _ _ _ ?_))
        clear hK64
        refine wp_reg ?_
        refine ol_r (r_move rfl) rfl ?_
        refine ol_r (r_move rfl) rfl ?_
        refine ol_bs1 81 rfl rfl rw22 rfl rfl rfl fun a81 => ?_
        refine ol_append1 (id := 10) (id2 := 81) rfl rfl rfl rfl rfl rw22 (by omega) rfl fun a82 c82 => ?_
        refine ol_r (r_assign rfl) rfl ?_
        refine ol_nil (to_k0 (fun _ _ h => h) (hK55 _ _ _ _ _ ?_))
        clear hK55
        refine wp_reg ?_
        refine ol_r (r_add rfl rfl (by omega)) rfl ?_
        refine ol_r (r_move rfl) rfl ?_
        refine ol_nil (to_k0 (fun _ _ h => h) (hK52 ((j + 1, _, _, _)) _ _ ?_ ?_ (sub_cons rfl (sub_cons rfl sub_nil)) (sub_cons rfl (sub_cons rfl (sub_cons rfl (sub_cons rfl (sub_cons rfl (sub_cons rfl (sub_cons rfl sub_nil))))))) (by exact (subH_row rfl (by first | (dsimp only; first | (exfalso; omega) | (rw [stepV_snoc (by omega) (elV_big (by omega) (by omega)), encI_snoc]; done) | (rw [stepV_snoc (by omega) (elV_gap (by omega) (by omega)), encI_snoc]; done) | (rw [stepV_snoc (by omega) (elV_len (by omega) (by omega)), lenV_4 (by omega), encI_snoc]; done) | (rw [stepV_snoc (by omega) (elV_len (by omega) (by omega)), lenV_6 (by omega), encI_snoc]; done) | (rw [stepV_snoc (by omega) (elV_valF (by omega) (by omega) (by omega)), encI_snoc]; done); done) | (first | (exfalso; omega) | (rw [stepV_snoc (by omega) (elV_big (by omega) (by omega)), encI_snoc]; done) | (rw [stepV_snoc (by omega) (elV_gap (by omega) (by omega)), encI_snoc]; done) | (rw [stepV_snoc (by omega) (elV_len (by omega) (by omega)), lenV_4 (by omega), encI_snoc]; done) | (rw [stepV_snoc (by omega) (elV_len (by omega) (by omega)), lenV_6 (by omega), encI_snoc]; done) | (rw [stepV_snoc (by omega) (elV_valF (by omega) (by omega) (by omega)), encI_snoc]; done); done) | (dsimp only; done)) subH_nil)) (subH_same rfl (subH_same rfl subH_nil))))
        ·try dsimp only
         exact ⟨by omega, by omega⟩
        ·try dsimp only
         omega
     ·refine wp_exit' (to_k0 (fun _ _ h => h) (hK50 _ _ _ _ _ ?_))
      clear hK50
      refine wp_seq' fun K68 hK68 => ?_
      refine wp_reg ?_
      refine ol_r (r_move rfl) rfl ?_
      refine ol_r (r_assign rfl) rfl ?_
      refine ol_nil (to_k0 (fun _ _ h => h) (hK68 _ _ _ _ _ ?_))
      clear hK68
      refine hQ.ret (rvs1 (rv_t rfl)) (fun _ _ h => h) fun w hb hs hB hkd => ?_
      have hjj : (j : Int) = q.at_ - p.at_ := by omega
      have h9 := hs.ok 10 _ rfl
      rw [List.take_of_length_le (by rw [stepV_len]; omega)] at h9
      exact ⟨_, _, _, rfl, hb, h9⟩
theorem ref4_Stream (A : ActV) (kind : Int) (w : World) (hA : A.Ok w.heap.size w) :
    Calls Try.prog 37 #[.agg #[.string A.name, .int .i64 A.sport, .int .i64 A.start, .slice A.sa A.sn A.sc, .slice A.la A.ln A.lc, .slice A.ta A.tn A.tc], .int .i64 kind] w fun e w' => ∃ b m k, e = .returned (.tuple #[.slice b m k, .int .i64 (streamsR A.d kind).2]) ∧ Fresh encI 3 w w' b m k (streamsR A.d kind).1 := by
  have hsn := hA.s.len
  have hsf := hA.s.fit
  have hlen := stepsL_len A.ss
  refine enterQ (N := 43) (C := fun _ => True) (H := []) (B := w.heap.size) (args := [_, _]) Try.func37 rfl rfl rfl (Nat.le_refl _) (Sat.nil _ _) fun Q hQ => ?_
  refine wp_seq' fun K1 hK1 => ?_
  refine wp_reg ?_
  refine ol_box 2 rfl rfl rfl fun b2 => ?_
  refine ol_r (r_assign rfl) rfl ?_
  refine ol_r (r_assign rfl) rfl ?_
  refine ol_nil (to_k0 (fun _ _ h => h) (hK1 _ _ _ _ _ ?_))
  clear hK1
  refine wp_seq' fun K2 hK2 => ?_
  refine wp_seq' fun K3 hK3 => ?_
  refine wp_reg ?_
  refine ol_r (r_lda (id := 2) (n := 6) rfl rfl rfl ag51) rfl ?_
  refine ol_call rfl rfl cb82 rfl (fun w1 hb1 hs1 hB1 => Calls.mono (ref2_Check A _ (hA.at hb1 hB1)) ?_)
  rintro e w2 ⟨rfl, hb2⟩
  refine After.below rfl hb1 hs1 hB1 hb2 ?_
  clear hb2 hB1 hs1 hb1 w2 w1
  refine ol_r (r_assign rfl) rfl ?_
  refine ol_nil (to_k0 (fun _ _ h => h) (hK3 _ _ _ _ _ ?_))
  clear hK3
  refine wp_seq' fun K4 hK4 => ?_
  refine wp_reg ?_
  refine ol_r (r_move rfl) rfl ?_
  refine ol_r (r_neq rfl rfl) rfl ?_
  refine ol_nil (to_k0 (fun _ _ h => h) (hK4 _ _ _ _ _ ?_))
  clear hK4
  first | refine wp_condD rfl (fun hc12 => ?_) (fun hc12 => ?_) | refine wp_condN rfl (fun hc12 => ?_) (fun hc12 => ?_) | refine wp_condNB rfl (fun hc12 => ?_) (fun hc12 => ?_) | refine wp_cond' rfl (fun hc12 => ?_) (fun hc12 => ?_)
  ·refine wp_seq' fun K5 hK5 => ?_
   refine wp_reg ?_
   refine ol_r (r_move rfl) rfl ?_
   refine ol_r (r_assign rfl) rfl ?_
   refine ol_r (r_assign rfl) rfl ?_
   refine ol_nil (to_k0 (fun _ _ h => h) (hK5 _ _ _ _ _ ?_))
   clear hK5
   refine hQ.ret (rvs2 (rv_t rfl) (rv_t rfl)) (fun _ _ h => h) fun w hb hs hB hkd => ?_
   first
     | (have h := streamsR_e (k := kind) hc12
        exact ⟨none, 0, 0, by rw [h], by rw [h]; exact Fresh.nil hb⟩)
     | (have h := streamsR_7 (Decidable.not_not.1 hc12) (k := kind) (by omega)
        exact ⟨none, 0, 0, by rw [h], by rw [h]; exact Fresh.nil hb⟩)
     | (have h := streamsR_0 h0 hk5
        have hkk : k = A.ss.length - 1 := by omega
        refine ⟨_, _, _, by rw [h], hb, ?_⟩
        have h9 := hs.ok 7 _ rfl
        rw [h]
        show _
        rw [hkk] at h9
        exact h9)
  ·refine wp_skip' (to_k0 (fun _ _ h => h) (hK2 _ _ _ _ _ ?_))
   clear hK2
   refine wp_seq' fun K6 hK6 => ?_
   refine wp_seq' fun K7 hK7 => ?_
   refine wp_reg ?_
   refine ol_r (r_move rfl) rfl ?_
   refine ol_r (r_lss rfl rfl) rfl ?_
   refine ol_r (r_move rfl) rfl ?_
   refine ol_split (d := 16) rfl (fun hs16 => ?_) (fun hs16 => ?_)
   ·have phs16 := hs16; try simp only [decide_eq_true_eq, decide_eq_false_iff_not, Bool.not_eq_true', Bool.not_eq_false', Bool.not_true, Bool.not_false] at phs16
    refine ol_s rfl rfl hs16 rfl ?_
    refine ol_s rfl rfl hs16 rfl ?_
    refine ol_r (r_pickT rfl hs16 rfl) rfl ?_
    refine ol_nil (to_k0 (fun _ _ h => h) (hK7 _ _ _ _ _ ?_))
    clear hK7
    refine wp_condT rfl ?_
    refine wp_seq' fun K8 hK8 => ?_
    refine wp_reg ?_
    refine ol_r (r_assign rfl) rfl ?_
    refine ol_r (r_assign rfl) rfl ?_
    refine ol_nil (to_k0 (fun _ _ h => h) (hK8 _ _ _ _ _ ?_))
    clear hK8
    refine hQ.ret (rvs2 (rv_t rfl) (rv_t rfl)) (fun _ _ h => h) fun w hb hs hB hkd => ?_
    first
      | (have h := streamsR_e (k := kind) hc12
         exact ⟨none, 0, 0, by rw [h], by rw [h]; exact Fresh.nil hb⟩)
      | (have h := streamsR_7 (Decidable.not_not.1 hc12) (k := kind) (by omega)
         exact ⟨none, 0, 0, by rw [h], by rw [h]; exact Fresh.nil hb⟩)
      | (have h := streamsR_0 h0 hk5
         have hkk : k = A.ss.length - 1 := by omega
         refine ⟨_, _, _, by rw [h], hb, ?_⟩
         have h9 := hs.ok 7 _ rfl
         rw [h]
         show _
         rw [hkk] at h9
         exact h9)
   ·have phs16 := hs16; try simp only [decide_eq_true_eq, decide_eq_false_iff_not, Bool.not_eq_true', Bool.not_eq_false', Bool.not_true, Bool.not_false] at phs16
    refine ol_g rfl rfl hs16 ?_
    refine ol_r (r_move rfl) rfl ?_
    refine ol_g rfl rfl hs16 ?_
    refine ol_r (r_gtr rfl rfl) rfl ?_
    refine ol_r (r_pickF rfl hs16 rfl) rfl ?_
    refine ol_nil (to_k0 (fun _ _ h => h) (hK7 _ _ _ _ _ ?_))
    clear hK7
    first | refine wp_condD rfl (fun hc19 => ?_) (fun hc19 => ?_) | refine wp_condN rfl (fun hc19 => ?_) (fun hc19 => ?_) | refine wp_condNB rfl (fun hc19 => ?_) (fun hc19 => ?_) | refine wp_cond' rfl (fun hc19 => ?_) (fun hc19 => ?_)
    ·refine wp_seq' fun K9 hK9 => ?_
     refine wp_reg ?_
     refine ol_r (r_assign rfl) rfl ?_
     refine ol_r (r_assign rfl) rfl ?_
     refine ol_nil (to_k0 (fun _ _ h => h) (hK9 _ _ _ _ _ ?_))
     clear hK9
     refine hQ.ret (rvs2 (rv_t rfl) (rv_t rfl)) (fun _ _ h => h) fun w hb hs hB hkd => ?_
     first
       | (have h := streamsR_e (k := kind) hc12
          exact ⟨none, 0, 0, by rw [h], by rw [h]; exact Fresh.nil hb⟩)
       | (have h := streamsR_7 (Decidable.not_not.1 hc12) (k := kind) (by omega)
          exact ⟨none, 0, 0, by rw [h], by rw [h]; exact Fresh.nil hb⟩)
       | (have h := streamsR_0 h0 hk5
          have hkk : k = A.ss.length - 1 := by omega
          refine ⟨_, _, _, by rw [h], hb, ?_⟩
          have h9 := hs.ok 7 _ rfl
          rw [h]
          show _
          rw [hkk] at h9
          exact h9)
    ·refine wp_skip' (to_k0 (fun _ _ h => h) (hK6 _ _ _ _ _ ?_))
     clear hK6
     refine wp_seq' fun K10 hK10 => ?_
     refine wp_reg ?_
     refine ol_nilrow 7 3 1 ?_
     refine ol_r (r_assign rfl) rfl ?_
     refine ol_nil (to_k0 (fun _ _ h => h) (hK10 _ _ _ _ _ ?_))
     clear hK10
     refine wp_seq' fun K11 hK11 => ?_
     refine wp_seq' fun K12 hK12 => ?_
     refine wp_reg ?_
     have h0 : chkA A.d = 0 := Decidable.not_not.1 hc12
     have hok : SmpOk A.start A.ss := (goodA h0).smp
     have hl20 := hok.len
     have hk5 : 1 ≤ kind ∧ kind ≤ 5 := by omega
     refine ol_r (r_assign rfl) rfl ?_
     refine ol_nil (to_k0 (fun _ _ h => h) (hK12 _ _ _ _ _ ?_))
     clear hK12
     refine wp_block' ?_
     apply wp_loopM (σ := Nat × Option Addr × Nat × Nat) (fun s => s.1 ≤ A.ss.length - 1 ∧ s.2.2.1 = (strmL kind A.ss s.1).length) (fun s => [(8, .int .i64 (s.1 + 1)), (7, .slice s.2.1 s.2.2.1 s.2.2.2)]) [(1, _), (2, _), (4, _), (5, _)] (fun s => [(7, .row s.2.1 s.2.2.1 s.2.2.2 (encI.enc (strmL kind A.ss s.1)) 3 1)]) [(2, _)] (fun s => A.ss.length - s.1) ((0, none, 0, 0))
     ·try dsimp only
      exact ⟨Nat.zero_le _, rfl⟩
     ·exact (sub_cons rfl (sub_cons rfl sub_nil))
     ·exact (sub_cons rfl (sub_cons rfl (sub_cons rfl (sub_cons rfl sub_nil))))
     ·exact (subH_row rfl (by first | (dsimp only; rfl; done) | (rfl; done) | (dsimp only; done)) subH_nil)
     ·exact (subH_same rfl subH_nil)
     ·rintro ⟨k, oa, on, oc⟩ ⟨hk, hon⟩
      dsimp only at hk hon ⊢
      intro K13 hK13
      refine wp_seq' fun K14 hK14 => ?_
      refine wp_seq' fun K15 hK15 => ?_
      refine wp_reg ?_
      refine ol_r (r_move rfl) rfl ?_
      refine ol_r (r_fa (o' := 3) rfl fl51_3 rfl) rfl ?_
      refine ol_r (r_ld (id := 2) rfl rfl rfl sc47) rfl ?_
      refine ol_r (r_len rfl sl47) rfl ?_
      refine ol_r (r_lss rfl rfl) rfl ?_
      refine ol_nil (to_k0 (fun _ _ h => h) (hK15 _ _ _ _ _ ?_))
      clear hK15
      first | refine wp_condD rfl (fun hc24 => ?_) (fun hc24 => ?_) | refine wp_condN rfl (fun hc24 => ?_) (fun hc24 => ?_) | refine wp_condNB rfl (fun hc24 => ?_) (fun hc24 => ?_) | refine wp_cond' rfl (fun hc24 => ?_) (fun hc24 => ?_)
      ·refine wp_skip' (to_k0 (fun _ _ h => h) (hK14 _ _ _ _ _ ?_))
       clear hK14
       refine wp_seq' fun K16 hK16 => ?_
       refine wp_block' ?_
       refine wp_rega [(999, [(2, _)]), (14, [(7, _)])] (by kernel_rfl) ⟨.inr (subH_same rfl subH_nil), ⟨.inr (subH_same rfl subH_nil), trivial⟩⟩ ?_
       refine aq_r 0 999 rfl (by kernel_rfl) (by kernel_rfl) (by kernel_rfl) (.head _) (by kernel_rfl) (by kernel_rfl) rfl (r_move rfl) ?_
       refine aq_r 1 999 rfl (by kernel_rfl) (by kernel_rfl) (by kernel_rfl) (.head _) (by kernel_rfl) (by kernel_rfl) rfl (r_fa (o' := 3) rfl fl51_3 rfl) ?_
       refine aq_r 2 999 rfl (by kernel_rfl) (by kernel_rfl) (by kernel_rfl) (.head _) (by kernel_rfl) (by kernel_rfl) rfl (r_ld (id := 2) rfl rfl rfl sc47) ?_
       refine aq_r 3 999 rfl (by kernel_rfl) (by kernel_rfl) (by kernel_rfl) (.head _) (by kernel_rfl) (by kernel_rfl) rfl (r_move rfl) ?_
       refine aq_r 4 999 rfl (by kernel_rfl) (by kernel_rfl) (by kernel_rfl) (.head _) (by kernel_rfl) (by kernel_rfl) rfl (r_sub rfl rfl (by omega)) ?_
       refine aq_ixr 5 999 rfl (by kernel_rfl) (by kernel_rfl) (by kernel_rfl) (.head _) (by kernel_rfl) (by kernel_rfl) rfl hA.s rfl rfl sl47 (by omega) fun x32 hx32 => ?_
       try simp only [Int.toNat_natCast] at hx32
       refine aq_r 6 999 rfl (by kernel_rfl) (by kernel_rfl) (by kernel_rfl) (.head _) (by kernel_rfl) (by kernel_rfl) rfl (r_ldw rfl (fun w1 hb1 hs1 hB1 => Rd.loads hA.s ty111 hx32 hb1)) ?_
       refine aq_r 7 999 rfl (by kernel_rfl) (by kernel_rfl) (by kernel_rfl) (.head _) (by kernel_rfl) (by kernel_rfl) rfl (r_fa (o' := 3) rfl fl51_3 rfl) ?_
       refine aq_r 8 999 rfl (by kernel_rfl) (by kernel_rfl) (by kernel_rfl) (.head _) (by kernel_rfl) (by kernel_rfl) rfl (r_ld (id := 2) rfl rfl rfl sc47) ?_
       refine aq_r 9 999 rfl (by kernel_rfl) (by kernel_rfl) (by kernel_rfl) (.head _) (by kernel_rfl) (by kernel_rfl) rfl (r_move rfl) ?_
       refine aq_ixr 10 999 rfl (by kernel_rfl) (by kernel_rfl) (by kernel_rfl) (.head _) (by kernel_rfl) (by kernel_rfl) rfl hA.s rfl rfl sl47 (by omega) fun x37 hx37 => ?_
       try simp only [Int.toNat_natCast] at hx37
       refine aq_r 11 999 rfl (by kernel_rfl) (by kernel_rfl) (by kernel_rfl) (.head _) (by kernel_rfl) (by kernel_rfl) rfl (r_ldw rfl (fun w1 hb1 hs1 hB1 => Rd.loads hA.s ty111 hx37 hb1)) ?_
       have hxx : A.ss[k]? = some x32 := by rw [← hx32]; congr 1; omega
       have hp := hok.place (List.mem_of_getElem? hxx)
       have hq := hok.place (List.mem_of_getElem? hx37)
       have hpz := hok.bd _ (List.mem_of_getElem? hxx)
       have hqz := hok.bd _ (List.mem_of_getElem? hx37)
       have hris := hok.rise _ _ _ hxx hx37
       have hsl := strmL_len hok kind _ _ hxx
       have hst := stepsL_get hxx hx37
       have hvl := stepV_len kind x32 x37
       refine aq_r 12 999 rfl (by kernel_rfl) (by kernel_rfl) (by kernel_rfl) (.head _) (by kernel_rfl) (by kernel_rfl) rfl (r_move rfl) ?_
       refine aq_one (i := 13) (by kernel_rfl) rfl fun K17 hK17 => ?_
       refine ol_call rfl rfl cb83 rfl (fun w1 hb1 hs1 hB1 => Calls.mono (ref4_step x32 x37 kind _ hp hq hpz.2.2.2.2.2.1 hqz.2.2.2.2.2.1 (by omega) hk5) ?_)
       rintro e w2 ⟨a40, n40, c40, rfl, hf40⟩
       refine After.fresh (id := 40) rfl hb1 hs1 hB1 hf40 ?_
       have hl40 := hf40.len; clear hf40 hB1 hs1 hb1 w2 w1
       refine ol_nil (to_k0 (fun _ _ h => h) (hK17 _ _ ⟨.inr (by repeat' first | exact subH_nil | refine subH_same rfl ?_ | (refine subH_blk rfl (by repeat' first | exact sub_nil | refine sub_cons rfl ?_) ?_)), ⟨.inr (by repeat' first | exact subH_nil | refine subH_same rfl ?_ | (refine subH_blk rfl (by repeat' first | exact sub_nil | refine sub_cons rfl ?_) ?_)), trivial⟩⟩ ?_))
       clear hK17
       refine aq_one (i := 14) (by kernel_rfl) rfl fun K18 hK18 => ?_
       refine ol_append (id := 7) (news := encI.enc (stepV kind x32 x37)) rfl rfl rfl rw22 (by rw [Enc.enc_len, hl40]; rfl) (encI.ones_enc _) (fun w1 hb1 hs1 hB1 => ?_) (by omega) rfl fun a41 c41 => ?_
       · obtain ⟨p, hp⟩ : ∃ p, a40 = some p := by
           have := (Sat.rd hs1 (E := encI) (id := 40) rfl rfl).isSome (by omega)
           cases a40 with
           | none => simp at this
           | some p => exact ⟨p, rfl⟩
         exact ⟨p, hp, (Sat.rd hs1 (E := encI) (id := 40) rfl rfl).flat hp⟩
       refine ol_nil (to_k0 (fun _ _ h => h) (hK18 _ _ ⟨.inr (by repeat' first | exact subH_nil | refine subH_same rfl ?_ | (refine subH_blk rfl (by repeat' first | exact sub_nil | refine sub_cons rfl ?_) ?_)), ⟨.inl (by kernel_rfl), trivial⟩⟩ ?_))
       clear hK18
       refine aq_r 15 999 rfl (by kernel_rfl) (by kernel_rfl) (by kernel_rfl) (.head _) (by kernel_rfl) (by kernel_rfl) rfl (r_assign rfl) ?_
       refine aq_done (by kernel_rfl) ?_
       refine (to_k0 (fun _ _ h => h) (hK16 _ _ _ _ _ ?_))
       clear hK16
       refine wp_reg ?_
       refine ol_r (r_move rfl) rfl ?_
       refine ol_r (r_add rfl rfl (by omega)) rfl ?_
       have h0 : chkA A.d = 0 := Decidable.not_not.1 hc12
       have hok : SmpOk A.start A.ss := (goodA h0).smp
       have hl20 := hok.len
       have hk5 : 1 ≤ kind ∧ kind ≤ 5 := by omega
       refine ol_r (r_assign rfl) rfl ?_
       refine ol_nil (to_k0 (fun _ _ h => h) (hK13 ((k + 1, _, _, _)) _ _ ?_ ?_ (sub_cons rfl (sub_cons rfl sub_nil)) (sub_cons rfl (sub_cons rfl (sub_cons rfl (sub_cons rfl sub_nil)))) (by exact (subH_row rfl (by first | (dsimp only; rw [strmL_succ hst, Enc.enc_append]; done) | (rw [strmL_succ hst, Enc.enc_append]; done) | (dsimp only; done)) subH_nil)) (subH_same rfl subH_nil)))
       ·try dsimp only
        refine ⟨by omega, ?_⟩
        rw [strmL_succ hst, List.length_append, hl40, hon]
       ·try dsimp only
        omega
      ·refine wp_exit' (to_k0 (fun _ _ h => h) (hK11 _ _ _ _ _ ?_))
       clear hK11
       refine wp_seq' fun K19 hK19 => ?_
       refine wp_reg ?_
       refine ol_r (r_move rfl) rfl ?_
       refine ol_r (r_assign rfl) rfl ?_
       refine ol_r (r_assign rfl) rfl ?_
       refine ol_nil (to_k0 (fun _ _ h => h) (hK19 _ _ _ _ _ ?_))
       clear hK19
       refine hQ.ret (rvs2 (rv_t rfl) (rv_t rfl)) (fun _ _ h => h) fun w hb hs hB hkd => ?_
       first
         | (have h := streamsR_e (k := kind) hc12
            exact ⟨none, 0, 0, by rw [h], by rw [h]; exact Fresh.nil hb⟩)
         | (have h := streamsR_7 (Decidable.not_not.1 hc12) (k := kind) (by omega)
            exact ⟨none, 0, 0, by rw [h], by rw [h]; exact Fresh.nil hb⟩)
         | (have h := streamsR_0 h0 hk5
            have hkk : k = A.ss.length - 1 := by omega
            refine ⟨_, _, _, by rw [h], hb, ?_⟩
            have h9 := hs.ok 7 _ rfl
            rw [h]
            show _
            rw [hkk] at h9
            exact h9)
theorem effort_Stream (A : ActV) (kind : Int) (w : World) (hA : A.Ok w.heap.size w) :
    Calls Try.prog 36 #[.agg #[.string A.name, .int .i64 A.sport, .int .i64 A.start, .slice A.sa A.sn A.sc, .slice A.la A.ln A.lc, .slice A.ta A.tn A.tc], .int .i64 kind] w fun e w' => ∃ b m k, e = .returned (.tuple #[.slice b m k, .int .i64 (streamsR A.d kind).2]) ∧ Fresh encI 3 w w' b m k (streamsR A.d kind).1 := by
  refine enterQ (N := 18) (C := fun _ => True) (H := []) (B := w.heap.size) (args := [_, _]) Try.func36 rfl rfl rfl (Nat.le_refl _) (Sat.nil _ _) fun Q hQ => ?_
  refine wp_seq' fun K1 hK1 => ?_
  refine wp_reg ?_
  refine ol_box 2 rfl rfl rfl fun b2 => ?_
  refine ol_r (r_assign rfl) rfl ?_
  refine ol_r (r_assign rfl) rfl ?_
  refine ol_nil (to_k0 (fun _ _ h => h) (hK1 _ _ _ _ _ ?_))
  clear hK1
  refine wp_seq' fun K2 hK2 => ?_
  refine wp_seq' fun K3 hK3 => ?_
  refine wp_reg ?_
  refine ol_r (r_lda (id := 2) (n := 6) rfl rfl rfl ag51) rfl ?_
  refine ol_call rfl rfl cb80 rfl (fun w1 hb1 hs1 hB1 => Calls.mono (record_Check A _ (hA.at hb1 hB1)) ?_)
  rintro e w2 ⟨rfl, hb2⟩
  refine After.below rfl hb1 hs1 hB1 hb2 ?_
  clear hb2 hB1 hs1 hb1 w2 w1
  refine ol_r (r_assign rfl) rfl ?_
  refine ol_nil (to_k0 (fun _ _ h => h) (hK3 _ _ _ _ _ ?_))
  clear hK3
  refine wp_seq' fun K4 hK4 => ?_
  refine wp_reg ?_
  refine ol_r (r_move rfl) rfl ?_
  refine ol_r (r_neq rfl rfl) rfl ?_
  refine ol_nil (to_k0 (fun _ _ h => h) (hK4 _ _ _ _ _ ?_))
  clear hK4
  first | refine wp_condD rfl (fun hc10 => ?_) (fun hc10 => ?_) | refine wp_condN rfl (fun hc10 => ?_) (fun hc10 => ?_) | refine wp_condNB rfl (fun hc10 => ?_) (fun hc10 => ?_) | refine wp_cond' rfl (fun hc10 => ?_) (fun hc10 => ?_)
  ·refine wp_seq' fun K5 hK5 => ?_
   refine wp_reg ?_
   refine ol_r (r_move rfl) rfl ?_
   refine ol_r (r_assign rfl) rfl ?_
   refine ol_r (r_assign rfl) rfl ?_
   refine ol_nil (to_k0 (fun _ _ h => h) (hK5 _ _ _ _ _ ?_))
   clear hK5
   refine hQ.ret (rvs2 (rv_t rfl) (rv_t rfl)) (fun _ _ h => h) fun w hb hs hB hkd => ?_
   have h := streamsR_e (k := kind) hc10
   exact ⟨none, 0, 0, by rw [h], by rw [h]; exact Fresh.nil hb⟩
  ·refine wp_skip' (to_k0 (fun _ _ h => h) (hK2 _ _ _ _ _ ?_))
   clear hK2
   refine wp_seq' fun K6 hK6 => ?_
   refine wp_seq' fun K7 hK7 => ?_
   refine wp_reg ?_
   refine ol_r (r_move rfl) rfl ?_
   refine ol_call rfl rfl cb69 rfl (fun w1 hb1 hs1 hB1 => Calls.mono (effort_in _ _ _ _) ?_)
   rintro e w2 ⟨rfl, hb2⟩
   refine After.below rfl hb1 hs1 hB1 hb2 ?_
   clear hb2 hB1 hs1 hb1 w2 w1
   refine ol_r (r_not rfl) rfl ?_
   refine ol_nil (to_k0 (fun _ _ h => h) (hK7 _ _ _ _ _ ?_))
   clear hK7
   first | refine wp_condD rfl (fun hc14 => ?_) (fun hc14 => ?_) | refine wp_condN rfl (fun hc14 => ?_) (fun hc14 => ?_) | refine wp_condNB rfl (fun hc14 => ?_) (fun hc14 => ?_) | refine wp_cond' rfl (fun hc14 => ?_) (fun hc14 => ?_)
   ·refine wp_seq' fun K8 hK8 => ?_
    refine wp_reg ?_
    refine ol_r (r_assign rfl) rfl ?_
    refine ol_r (r_assign rfl) rfl ?_
    refine ol_nil (to_k0 (fun _ _ h => h) (hK8 _ _ _ _ _ ?_))
    clear hK8
    refine hQ.ret (rvs2 (rv_t rfl) (rv_t rfl)) (fun _ _ h => h) fun w hb hs hB hkd => ?_
    have h := streamsR_7 (Decidable.not_not.1 hc10) (k := kind) (fun h => by rw [inB_iff.2 h] at hc14; cases hc14)
    exact ⟨none, 0, 0, by rw [h], by rw [h]; exact Fresh.nil hb⟩
   ·refine wp_skip' (to_k0 (fun _ _ h => h) (hK6 _ _ _ _ _ ?_))
    clear hK6
    refine wp_seq' fun K9 hK9 => ?_
    refine wp_reg ?_
    have h0 : chkA A.d = 0 := Decidable.not_not.1 hc10
    have hok : SmpOk A.start A.ss := (goodA h0).smp
    have hk5 : 1 ≤ kind ∧ kind ≤ 5 := inB_iff.1 (by simpa using hc14)
    refine ol_r (r_lda (id := 2) (n := 6) rfl rfl rfl ag51) rfl ?_
    refine ol_r (r_move rfl) rfl ?_
    refine ol_call rfl rfl cb81 rfl (fun w1 hb1 hs1 hB1 => Calls.mono (effort_stream A kind _ (hA.at hb1 hB1) hok hk5) ?_)
    rintro e w2 ⟨a17, n17, c17, rfl, hf17⟩
    refine After.fresh (id := 17) rfl hb1 hs1 hB1 hf17 ?_
    have hl17 := hf17.len; clear hf17 hB1 hs1 hb1 w2 w1
    refine ol_r (r_assign rfl) rfl ?_
    refine ol_r (r_assign rfl) rfl ?_
    refine ol_nil (to_k0 (fun _ _ h => h) (hK9 _ _ _ _ _ ?_))
    clear hK9
    refine hQ.ret (rvs2 (rv_t rfl) (rv_t rfl)) (fun _ _ h => h) fun w hb hs hB hkd => ?_
    have h := streamsR_0 h0 hk5
    exact ⟨_, _, _, by rw [h], by rw [h]; exact ⟨hb, hs.ok 17 _ rfl⟩⟩
theorem streamsR_ok (a : ActD) (kind : Int) : (streamsR a kind).2 = 0 → streamR (streamsR a kind).1 = 0 := by
  intro h
  by_cases h1 : chkA a ≠ 0
  · rw [streamsR_e h1] at h; exact absurd h h1
  · have h1 := Decidable.not_not.1 h1
    by_cases h2 : 1 ≤ kind ∧ kind ≤ 5
    · rw [streamsR_0 h1 h2]
      have hok := (goodA h1).smp
      refine streamR_good ?_ (List.all_eq_true.2 fun x hx => inB_iff.2 (strmL_bd hok kind _ x hx))
      show ¬1000000 < (strmL kind a.ss (a.ss.length - 1)).length
      cases hx : a.ss[a.ss.length - 1]? with
      | none =>
        have := List.getElem?_eq_none_iff.1 hx
        have h3 : a.ss = [] := List.length_eq_zero_iff.1 (by omega)
        rw [h3]; simp [strmL, stepsL]
      | some x =>
        have h3 := strmL_len hok kind _ _ hx
        have h4 := hok.bd x (List.mem_of_getElem? hx)
        omega
    · rw [streamsR_7 h1 h2] at h; exact absurd h (by decide)
end Go.Proofs.Ytafkojlccknicaa
