/-
  MatchApartIsFair.
-/
import Derived.Test.YtbbhcffkleplnaaApart
import Derived.Test.YtbbhcffkleplnaaTold
namespace Go.Proofs.Ytbbhcffkleplnaa
open Go Go.RowKit Hx
set_option linter.unusedVariables false
set_option linter.unusedSimpArgs false
set_option maxRecDepth 8000
theorem clone_pt (a : Option Addr) (n c1 : Nat) (xs : List PtR) (w : World) (hx : Rd encPoint w.heap.size w a n c1 xs) (hn : n ≤ 1000000) :
    Calls Try.prog 28 #[.slice a n c1] w fun e w' => ∃ b m k, e = .returned (.slice b m k) ∧ Fresh encPoint 62 w w' b m k xs := by
  have hl := hx.len
  refine enterQ (N := 8) (C := fun _ => True) (H := []) (B := w.heap.size) (args := [_]) Try.func28 rfl rfl rfl (Nat.le_refl _) (Sat.nil _ _) fun Q hQ => ?_
  refine wp_seq' fun K1 hK1 => ?_
  refine wp_reg ?_
  refine ol_r (r_assign rfl) rfl ?_
  refine ol_nil (to_k0 (fun _ _ h => h) (hK1 _ _ _ _ _ ?_))
  clear hK1
  refine wp_seq' fun K2 hK2 => ?_
  refine wp_seq' fun K3 hK3 => ?_
  refine wp_reg ?_
  refine ol_r (r_move rfl) rfl ?_
  refine ol_r (r_snil rfl rfl sl57) rfl ?_
  refine ol_nil (to_k0 (fun _ _ h => h) (hK3 _ _ _ _ _ ?_))
  clear hK3
  first | refine wp_condD rfl (fun hc4 => ?_) (fun hc4 => ?_) | refine wp_condN rfl (fun hc4 => ?_) (fun hc4 => ?_) | refine wp_condNB rfl (fun hc4 => ?_) (fun hc4 => ?_) | refine wp_cond' rfl (fun hc4 => ?_) (fun hc4 => ?_)
  ·refine wp_seq' fun K4 hK4 => ?_
   refine wp_reg ?_
   refine ol_r (r_assign rfl) rfl ?_
   refine ol_nil (to_k0 (fun _ _ h => h) (hK4 _ _ _ _ _ ?_))
   clear hK4
   refine hQ.ret (rvs1 (rv_t rfl)) (fun _ _ h => h) fun w hb hs hB hkd => ?_
   have h0 : n = 0 := by
     cases n with
     | zero => rfl
     | succ m => have := hx.isSome (by omega); cases a <;> simp at this hc4
   have : xs = [] := List.eq_nil_of_length_eq_zero (by omega)
   subst this
   exact ⟨none, 0, 0, rfl, Fresh.nil hb⟩
  ·refine wp_skip' (to_k0 (fun _ _ h => h) (hK2 _ _ _ _ _ ?_))
   clear hK2
   refine wp_seq' fun K5 hK5 => ?_
   refine wp_reg ?_
   refine ol_bs0 5 rw57 rfl fun b5 => ?_
   refine ol_r (r_move rfl) rfl ?_
   refine ol_append (id := 5) (news := encPoint.enc xs) rfl rfl rfl rw57 (by rw [Enc.enc_len, hl]; rfl) (encPoint.ones_enc xs) (fun w1 hb1 hs1 hB1 => ?_) (by omega) rfl fun a7 c7 => ?_
   · obtain ⟨p, hp⟩ : ∃ p, a = some p := by cases a with | none => simp at hc4 | some p => exact ⟨p, rfl⟩
     exact ⟨p, hp, (hx.below hb1).flat hp⟩
   refine ol_r (r_assign rfl) rfl ?_
   refine ol_nil (to_k0 (fun _ _ h => h) (hK5 _ _ _ _ _ ?_))
   clear hK5
   refine hQ.ret (rvs1 (rv_t rfl)) (fun _ _ h => h) fun w hb hs hB hkd => ?_
   refine ⟨a7, 0 + n, c7, rfl, hb, ?_⟩
   have := hs.ok 5 _ rfl
   exact this
theorem rev_pt (B : Nat) (a : Option Addr) (n c : Nat) (xs : List PtR) (e1 : Ent) (w : World) (hn : xs.length = n) (hn2 : n ≤ 1000000) (hB : B ≤ w.heap.size) (hs : Sat B w [(300, .row a n c (encPoint.enc xs) 62 2), (301, e1)]) :
    Calls Try.prog 29 #[.slice a n c] w fun e w' =>
      e = .returned (.tuple #[]) ∧ Below B w w' ∧ Sat B w' [(300, .row a n c (encPoint.enc xs.reverse) 62 2), (301, e1)] ∧ B ≤ w'.heap.size ∧ Kd (fun _ => False) w w' := by
  refine enterQ (N := 28) (C := fun _ => False) (H := [(300, .row a n c (encPoint.enc xs) 62 2), (301, e1)]) (B := B) (args := [_]) Try.func29 rfl rfl rfl (hB) (hs) fun Q hQ => ?_
  refine wp_seq' fun K1 hK1 => ?_
  refine wp_reg ?_
  refine ol_r (r_move rfl) rfl ?_
  refine ol_r (r_len rfl sl57) rfl ?_
  refine ol_r (r_sub rfl rfl (by omega)) rfl ?_
  refine ol_r (r_assign rfl) rfl ?_
  refine ol_r (r_assign rfl) rfl ?_
  refine ol_nil (to_k0 (fun _ _ h => h) (hK1 _ _ _ _ _ ?_))
  clear hK1
  refine wp_block' ?_
  apply wp_loopM (σ := Nat × List PtR) (fun s => s.1 ≤ n ∧ Rv xs s.1 s.2) (fun s => [(2, .int .i64 s.1), (3, .int .i64 ((n : Int) - 1 - s.1))]) [(0, _)] (fun s => [(300, .row a n c (encPoint.enc s.2) 62 2)]) [(301, _)] (fun s => n - s.1) ((0, xs))
  ·try dsimp only
   exact ⟨Nat.zero_le _, Rv.start xs⟩
  ·exact (sub_cons (by first | rfl | (first | rfl | (rw [show (n : Int) - 1 - ((0 : Nat) : Int) = (n : Int) - 1 by omega]; rfl))) (sub_cons (by first | rfl | (first | rfl | (rw [show (n : Int) - 1 - ((0 : Nat) : Int) = (n : Int) - 1 by omega]; rfl))) sub_nil))
  ·exact (sub_cons rfl sub_nil)
  ·exact (subH_row rfl (by first | (dsimp only; rfl; done) | (rfl; done) | (dsimp only; done)) subH_nil)
  ·exact (subH_same rfl subH_nil)
  ·rintro ⟨k, zs⟩ ⟨hk, hR⟩
   dsimp only at hk hR ⊢
   have hzl := hR.1
   intro K2 hK2
   refine wp_seq' fun K3 hK3 => ?_
   refine wp_seq' fun K4 hK4 => ?_
   refine wp_reg ?_
   refine ol_r (r_move rfl) rfl ?_
   refine ol_r (r_move rfl) rfl ?_
   refine ol_r (r_lss rfl rfl) rfl ?_
   refine ol_nil (to_k0 (fun _ _ h => h) (hK4 _ _ _ _ _ ?_))
   clear hK4
   first | refine wp_condD rfl (fun hc9 => ?_) (fun hc9 => ?_) | refine wp_condN rfl (fun hc9 => ?_) (fun hc9 => ?_) | refine wp_condNB rfl (fun hc9 => ?_) (fun hc9 => ?_) | refine wp_cond' rfl (fun hc9 => ?_) (fun hc9 => ?_)
   ·refine wp_skip' (to_k0 (fun _ _ h => h) (hK3 _ _ _ _ _ ?_))
    clear hK3
    refine wp_seq' fun K5 hK5 => ?_
    refine wp_block' ?_
    refine wp_rega [(999, [(301, _)]), (13, [(300, _)])] (by kernel_rfl) ⟨.inr (subH_same rfl subH_nil), ⟨.inr (subH_same rfl subH_nil), trivial⟩⟩ ?_
    refine aq_r 0 999 rfl (by kernel_rfl) (by kernel_rfl) (by kernel_rfl) (.head _) (by kernel_rfl) (by kernel_rfl) rfl (r_move rfl) ?_
    refine aq_r 1 999 rfl (by kernel_rfl) (by kernel_rfl) (by kernel_rfl) (.head _) (by kernel_rfl) (by kernel_rfl) rfl (r_move rfl) ?_
    refine aq_r 2 999 rfl (by kernel_rfl) (by kernel_rfl) (by kernel_rfl) (.head _) (by kernel_rfl) (by kernel_rfl) rfl (r_move rfl) ?_
    refine aq_r 3 999 rfl (by kernel_rfl) (by kernel_rfl) (by kernel_rfl) (.head _) (by kernel_rfl) (by kernel_rfl) rfl (r_move rfl) ?_
    refine aq_r 4 999 rfl (by kernel_rfl) (by kernel_rfl) (by kernel_rfl) (.head _) (by kernel_rfl) (by kernel_rfl) rfl (r_move rfl) ?_
    refine aq_r 5 999 rfl (by kernel_rfl) (by kernel_rfl) (by kernel_rfl) (.head _) (by kernel_rfl) (by kernel_rfl) rfl (r_move rfl) ?_
    refine aq_ixo 6 13 rfl (by kernel_rfl) (by kernel_rfl) (by kernel_rfl) (.tail _ (.head _)) (by kernel_rfl) (by kernel_rfl) rfl (id := 300) encPoint _ rfl rfl rfl rfl sl57 (by omega) (by omega) fun x20 hx20 => ?_
    try simp only [Int.toNat_natCast] at hx20
    try simp only [Int.toNat_natCast] at hx20
    refine aq_r 7 13 rfl (by kernel_rfl) (by kernel_rfl) (by kernel_rfl) (.tail _ (.head _)) (by kernel_rfl) (by kernel_rfl) rfl (r_ldw rfl (fun w1 hb1 hs1 hB1 => ld_own (id := 300) hs1 rfl rfl ty62 hx20)) ?_
    refine aq_r 8 999 rfl (by kernel_rfl) (by kernel_rfl) (by kernel_rfl) (.head _) (by kernel_rfl) (by kernel_rfl) rfl (r_move rfl) ?_
    refine aq_r 9 999 rfl (by kernel_rfl) (by kernel_rfl) (by kernel_rfl) (.head _) (by kernel_rfl) (by kernel_rfl) rfl (r_move rfl) ?_
    refine aq_one (i := 10) (by kernel_rfl) rfl fun K6 hK6 => ?_
    refine ol_ixo (id := 300) encPoint _ rfl rfl rfl rfl sl57 (by omega) rfl fun x24 hx24 => ?_
    try simp only [Int.toNat_natCast] at hx24
    try simp only [Int.toNat_natCast] at hx24
    refine ol_nil (to_k0 (fun _ _ h => h) (hK6 _ _ ⟨.inr (by repeat' first | exact subH_nil | refine subH_same rfl ?_ | (refine subH_blk rfl (by repeat' first | exact sub_nil | refine sub_cons rfl ?_) ?_)), ⟨.inr (by repeat' first | exact subH_nil | refine subH_same rfl ?_ | (refine subH_blk rfl (by repeat' first | exact sub_nil | refine sub_cons rfl ?_) ?_)), trivial⟩⟩ ?_))
    clear hK6
    refine aq_r 11 13 rfl (by kernel_rfl) (by kernel_rfl) (by kernel_rfl) (.tail _ (.head _)) (by kernel_rfl) (by kernel_rfl) rfl (r_ldw rfl (fun w1 hb1 hs1 hB1 => ld_own (id := 300) hs1 rfl rfl ty62 hx24)) ?_
    refine aq_ixo 12 13 rfl (by kernel_rfl) (by kernel_rfl) (by kernel_rfl) (.tail _ (.head _)) (by kernel_rfl) (by kernel_rfl) rfl (id := 300) encPoint _ rfl rfl rfl rfl sl57 (by omega) (by omega) fun x26 hx26 => ?_
    try simp only [Int.toNat_natCast] at hx26
    try simp only [Int.toNat_natCast] at hx26
    refine aq_one (i := 13) (by kernel_rfl) rfl fun K7 hK7 => ?_
    refine ol_storeRow (id := 300) _ _ _ rfl rfl rfl rfl sz62 (by omega) ?_
    refine ol_nil (to_k0 (fun _ _ h => h) (hK7 _ _ ⟨.inr (by repeat' first | exact subH_nil | refine subH_same rfl ?_ | (refine subH_blk rfl (by repeat' first | exact sub_nil | refine sub_cons rfl ?_) ?_)), ⟨.inl (by kernel_rfl), trivial⟩⟩ ?_))
    clear hK7
    refine aq_one (i := 14) (by kernel_rfl) rfl fun K8 hK8 => ?_
    refine ol_ixo (id := 300) encPoint _ rfl rfl rfl rfl sl57 (by omega) rfl fun x27 hx27 => ?_
    try simp only [Int.toNat_natCast] at hx27
    try simp only [Int.toNat_natCast] at hx27
    refine ol_nil (to_k0 (fun _ _ h => h) (hK8 _ _ ⟨.inr (by repeat' first | exact subH_nil | refine subH_same rfl ?_ | (refine subH_blk rfl (by repeat' first | exact sub_nil | refine sub_cons rfl ?_) ?_)), ⟨.inl (by kernel_rfl), trivial⟩⟩ ?_))
    clear hK8
    refine aq_one (i := 15) (by kernel_rfl) rfl fun K9 hK9 => ?_
    refine ol_storeRow (id := 300) _ _ _ rfl rfl rfl rfl sz62 (by omega) ?_
    refine ol_nil (to_k0 (fun _ _ h => h) (hK9 _ _ ⟨.inr (by repeat' first | exact subH_nil | refine subH_same rfl ?_ | (refine subH_blk rfl (by repeat' first | exact sub_nil | refine sub_cons rfl ?_) ?_)), ⟨.inl (by kernel_rfl), trivial⟩⟩ ?_))
    clear hK9
    refine aq_done (by kernel_rfl) ?_
    refine (to_k0 (fun _ _ h => h) (hK5 _ _ _ _ _ ?_))
    clear hK5
    refine wp_reg ?_
    refine ol_r (r_move rfl) rfl ?_
    refine ol_r (r_add rfl rfl (by omega)) rfl ?_
    refine ol_r (r_move rfl) rfl ?_
    refine ol_r (r_sub rfl rfl (by omega)) rfl ?_
    refine ol_r (r_assign rfl) rfl ?_
    refine ol_r (r_assign rfl) rfl ?_
    refine ol_nil (to_k0 (fun _ _ h => h) (hK2 ((k + 1, (zs.set ((k : Nat) : Int).toNat x20).set ((n : Int) - 1 - (k : Int)).toNat x24)) _ _ ?_ ?_ (sub_cons (by first | rfl | (first | rfl | (rw [show (n : Int) - 1 - ((k + 1 : Nat) : Int) = (n : Int) - 1 - (k : Int) - 1 by omega]; rfl))) (sub_cons (by first | rfl | (first | rfl | (rw [show (n : Int) - 1 - ((k + 1 : Nat) : Int) = (n : Int) - 1 - (k : Int) - 1 by omega]; rfl))) sub_nil)) (sub_cons rfl sub_nil) (by exact (subH_row rfl (by first | (dsimp only; rfl; done) | (rfl; done) | (dsimp only; done)) subH_nil)) (subH_same rfl subH_nil)))
    ·try dsimp only
     rw [Int.toNat_natCast]
     rw [show ((n : Int) - 1 - (k : Int)).toNat = xs.length - 1 - k by omega] at hx20 ⊢
     exact ⟨by omega, hR.step hx24 hx20 (by omega)⟩
    ·try dsimp only
     omega
   ·refine wp_exit' (hQ.fall rvs0 (fun _ _ h => h) fun w hb hs hB hkd => ?_)
    have hz := hR.stop (by omega)
    subst hz
    refine ⟨rfl, hb, hs.sub (subH_same rfl (subH_same rfl subH_nil)), hB, hkd⟩
theorem law_far (p q : PtR) (w : World) (hp : ptR p = true) (hq : ptR q = true) :
    Calls Try.prog 30 #[encPoint.val p, encPoint.val q] w fun e w' => e = .returned (.int .i64 (far2 p q)) ∧ Below w.heap.size w w' := by
  obtain ⟨b1, b2⟩ := ptR_iff.1 hp
  obtain ⟨b3, b4⟩ := ptR_iff.1 hq
  have m1 := sqd_bd b1 b3
  have m2 := sqd_bd b2 b4
  refine enterQ (N := 28) (C := fun _ => True) (H := []) (B := w.heap.size) (args := [_, _]) Try.func30 rfl rfl rfl (Nat.le_refl _) (Sat.nil _ _) fun Q hQ => ?_
  refine wp_seq' fun K1 hK1 => ?_
  refine wp_reg ?_
  refine ol_box 2 rfl rfl rfl fun b2 => ?_
  refine ol_box 3 rfl rfl rfl fun b3 => ?_
  refine ol_r (r_assign rfl) rfl ?_
  refine ol_nil (to_k0 (fun _ _ h => h) (hK1 _ _ _ _ _ ?_))
  clear hK1
  refine wp_seq' fun K2 hK2 => ?_
  refine wp_reg ?_
  refine ol_r (r_fa (o' := 0) rfl fl62_0 rfl) rfl ?_
  refine ol_r (r_ld (id := 2) rfl rfl rfl sc3) rfl ?_
  refine ol_r (r_fa (o' := 0) rfl fl62_0 rfl) rfl ?_
  refine ol_r (r_ld (id := 3) rfl rfl rfl sc3) rfl ?_
  refine ol_r (r_sub rfl rfl (by omega)) rfl ?_
  refine ol_r (r_fa (o' := 0) rfl fl62_0 rfl) rfl ?_
  refine ol_r (r_ld (id := 2) rfl rfl rfl sc3) rfl ?_
  refine ol_r (r_fa (o' := 0) rfl fl62_0 rfl) rfl ?_
  refine ol_r (r_ld (id := 3) rfl rfl rfl sc3) rfl ?_
  refine ol_r (r_sub rfl rfl (by omega)) rfl ?_
  refine ol_r (r_mul rfl rfl (by omega)) rfl ?_
  refine ol_r (r_fa (o' := 1) rfl fl62_1 rfl) rfl ?_
  refine ol_r (r_ld (id := 2) rfl rfl rfl sc3) rfl ?_
  refine ol_r (r_fa (o' := 1) rfl fl62_1 rfl) rfl ?_
  refine ol_r (r_ld (id := 3) rfl rfl rfl sc3) rfl ?_
  refine ol_r (r_sub rfl rfl (by omega)) rfl ?_
  refine ol_r (r_fa (o' := 1) rfl fl62_1 rfl) rfl ?_
  refine ol_r (r_ld (id := 2) rfl rfl rfl sc3) rfl ?_
  refine ol_r (r_fa (o' := 1) rfl fl62_1 rfl) rfl ?_
  refine ol_r (r_ld (id := 3) rfl rfl rfl sc3) rfl ?_
  refine ol_r (r_sub rfl rfl (by omega)) rfl ?_
  refine ol_r (r_mul rfl rfl (by omega)) rfl ?_
  refine ol_r (r_add rfl rfl (by omega)) rfl ?_
  refine ol_r (r_assign rfl) rfl ?_
  refine ol_nil (to_k0 (fun _ _ h => h) (hK2 _ _ _ _ _ ?_))
  clear hK2
  refine hQ.ret (rvs1 (rv_t rfl)) (fun _ _ h => h) fun w hb hs hB hkd => ?_
  exact ⟨rfl, hb⟩
theorem law_fair (a : Option Addr) (n c1 : Nat) (xs : List PtR) (b : Option Addr) (m c2 : Nat) (ys : List PtR) (w : World) (hx : Rd encPoint w.heap.size w a n c1 xs) (hy : Rd encPoint w.heap.size w b m c2 ys) :
    Calls Try.prog 7 #[.slice a n c1, .slice b m c2] w fun e w' => e = .returned (.bool true) ∧ Below w.heap.size w w' := by
  have hxl := hx.len
  have hyl := hy.len
  have hxf := hx.fit
  have hyf := hy.fit
  have hsy : apE ys xs = apE xs ys := apE_symm ys xs
  refine enterQ (N := 103) (C := fun _ => True) (H := []) (B := w.heap.size) (args := [_, _]) Try.func7 rfl rfl rfl (Nat.le_refl _) (Sat.nil _ _) fun Q hQ => ?_
  refine wp_seq' fun K1 hK1 => ?_
  refine wp_reg ?_
  refine ol_r (r_assign rfl) rfl ?_
  refine ol_nil (to_k0 (fun _ _ h => h) (hK1 _ _ _ _ _ ?_))
  clear hK1
  refine wp_seq' fun K2 hK2 => ?_
  refine wp_seq' fun K3 hK3 => ?_
  refine wp_reg ?_
  refine ol_call rfl rfl cb12 rfl (fun w1 hb1 hs1 hB1 => Calls.mono (law5_told _) ?_)
  rintro e w2 ⟨rfl, hb2⟩
  refine After.below rfl hb1 hs1 hB1 hb2 ?_
  clear hb2 hB1 hs1 hb1 w2 w1
  refine ol_r (r_not rfl) rfl ?_
  refine ol_nil (to_k0 (fun _ _ h => h) (hK3 _ _ _ _ _ ?_))
  clear hK3
  first | refine wp_condD rfl (fun hc17 => ?_) (fun hc17 => ?_) | refine wp_condN rfl (fun hc17 => ?_) (fun hc17 => ?_) | refine wp_condNB rfl (fun hc17 => ?_) (fun hc17 => ?_) | refine wp_cond' rfl (fun hc17 => ?_) (fun hc17 => ?_)
  ·exfalso
   exact absurd hc17 (by decide)
  ·refine wp_skip' (to_k0 (fun _ _ h => h) (hK2 _ _ _ _ _ ?_))
   clear hK2
   refine wp_seq' fun K4 hK4 => ?_
   refine wp_reg ?_
   refine ol_r (r_move rfl) rfl ?_
   refine ol_r (r_move rfl) rfl ?_
   refine ol_call rfl rfl cb27 rfl (fun w1 hb1 hs1 hB1 => Calls.mono (match_Apart _ _ _ _ _ _ xs ys _ (hx.at hb1 hB1) (hy.at hb1 hB1)) ?_)
   rintro e w2 ⟨rfl, hb2⟩
   refine After.below rfl hb1 hs1 hB1 hb2 ?_
   clear hb2 hB1 hs1 hb1 w2 w1
   refine ol_r (r_move rfl) rfl ?_
   refine ol_r (r_extract rfl rfl) rfl ?_
   refine ol_r (r_extract rfl rfl) rfl ?_
   refine ol_r (r_assign rfl) rfl ?_
   refine ol_r (r_assign rfl) rfl ?_
   refine ol_nil (to_k0 (fun _ _ h => h) (hK4 _ _ _ _ _ ?_))
   clear hK4
   refine wp_seq' fun K5 hK5 => ?_
   refine wp_reg ?_
   refine ol_r (r_move rfl) rfl ?_
   refine ol_r (r_move rfl) rfl ?_
   refine ol_call rfl rfl cb27 rfl (fun w1 hb1 hs1 hB1 => Calls.mono (match_Apart _ _ _ _ _ _ ys xs _ (hy.at hb1 hB1) (hx.at hb1 hB1)) ?_)
   rintro e w2 ⟨rfl, hb2⟩
   refine After.below rfl hb1 hs1 hB1 hb2 ?_
   clear hb2 hB1 hs1 hb1 w2 w1
   refine ol_r (r_move rfl) rfl ?_
   refine ol_r (r_extract rfl rfl) rfl ?_
   refine ol_r (r_extract rfl rfl) rfl ?_
   refine ol_r (r_assign rfl) rfl ?_
   refine ol_r (r_assign rfl) rfl ?_
   refine ol_nil (to_k0 (fun _ _ h => h) (hK5 _ _ _ _ _ ?_))
   clear hK5
   refine wp_seq' fun K6 hK6 => ?_
   refine wp_seq' fun K7 hK7 => ?_
   refine wp_reg ?_
   refine ol_r (r_move rfl) rfl ?_
   refine ol_r (r_neq rfl rfl) rfl ?_
   refine ol_r (r_move rfl) rfl ?_
   refine ol_split (d := 32) rfl (fun hs32 => ?_) (fun hs32 => ?_)
   ·have phs32 := hs32; try simp only [decide_eq_true_eq, decide_eq_false_iff_not, Bool.not_eq_true', Bool.not_eq_false', Bool.not_true, Bool.not_false] at phs32
    refine ol_s rfl rfl hs32 rfl ?_
    refine ol_s rfl rfl hs32 rfl ?_
    refine ol_r (r_pickT rfl hs32 rfl) rfl ?_
    refine ol_nil (to_k0 (fun _ _ h => h) (hK7 _ _ _ _ _ ?_))
    clear hK7
    refine wp_condT rfl ?_
    refine wp_seq' fun K8 hK8 => ?_
    refine wp_reg ?_
    refine ol_r (r_move rfl) rfl ?_
    refine ol_r (r_neq rfl rfl) rfl ?_
    refine ol_r (r_move rfl) rfl ?_
    refine ol_r (r_neq rfl rfl) rfl ?_
    refine ol_r (r_beql rfl rfl (by kernel_rfl)) rfl ?_
    refine ol_r (r_move rfl) rfl ?_
    refine ol_split (d := 41) rfl (fun hs41 => ?_) (fun hs41 => ?_)
    ·have phs41 := hs41; try simp only [decide_eq_true_eq, decide_eq_false_iff_not, Bool.not_eq_true', Bool.not_eq_false', Bool.not_true, Bool.not_false] at phs41
     refine ol_g rfl rfl hs41 ?_
     refine ol_call rfl rfl cb12 rfl (fun w1 hb1 hs1 hB1 => Calls.mono (law5_told _) ?_)
     rintro e w2 ⟨rfl, hb2⟩
     refine After.below rfl hb1 hs1 hB1 hb2 ?_
     clear hb2 hB1 hs1 hb1 w2 w1
     refine ol_r (r_pickT rfl hs41 rfl) rfl ?_
     refine ol_r (r_assign rfl) rfl ?_
     refine ol_nil (to_k0 (fun _ _ h => h) (hK8 _ _ _ _ _ ?_))
     clear hK8
     refine hQ.ret (rvs1 (rv_t rfl)) (fun _ _ h => h) fun w hb hs hB hkd => ?_
     first
       | exact ⟨rfl, hb⟩
       | (exfalso; rw [apR_snd, apR_snd, hsy] at hs41; simp at hs41; done)
       | (exfalso; simp at hs67; done)
       | (exfalso; simp at hs72; done)
       | (exfalso; simp at hs76; done)
       | (exfalso; exact of_decide_eq_false hs88 (apV_first hx80 hx83))
       | (exfalso; exact of_decide_eq_false hs100 (apV_last hx92 hx95))
    ·have phs41 := hs41; try simp only [decide_eq_true_eq, decide_eq_false_iff_not, Bool.not_eq_true', Bool.not_eq_false', Bool.not_true, Bool.not_false] at phs41
     refine ol_s rfl rfl hs41 rfl ?_
     refine ol_r (r_pickF rfl hs41 rfl) rfl ?_
     refine ol_r (r_assign rfl) rfl ?_
     refine ol_nil (to_k0 (fun _ _ h => h) (hK8 _ _ _ _ _ ?_))
     clear hK8
     refine hQ.ret (rvs1 (rv_t rfl)) (fun _ _ h => h) fun w hb hs hB hkd => ?_
     first
       | exact ⟨rfl, hb⟩
       | (exfalso; rw [apR_snd, apR_snd, hsy] at hs41; simp at hs41; done)
       | (exfalso; simp at hs67; done)
       | (exfalso; simp at hs72; done)
       | (exfalso; simp at hs76; done)
       | (exfalso; exact of_decide_eq_false hs88 (apV_first hx80 hx83))
       | (exfalso; exact of_decide_eq_false hs100 (apV_last hx92 hx95))
   ·have phs32 := hs32; try simp only [decide_eq_true_eq, decide_eq_false_iff_not, Bool.not_eq_true', Bool.not_eq_false', Bool.not_true, Bool.not_false] at phs32
    refine ol_g rfl rfl hs32 ?_
    refine ol_r (r_move rfl) rfl ?_
    refine ol_g rfl rfl hs32 ?_
    refine ol_r (r_neq rfl rfl) rfl ?_
    refine ol_r (r_pickF rfl hs32 rfl) rfl ?_
    refine ol_nil (to_k0 (fun _ _ h => h) (hK7 _ _ _ _ _ ?_))
    clear hK7
    first | refine wp_condD rfl (fun hc35 => ?_) (fun hc35 => ?_) | refine wp_condN rfl (fun hc35 => ?_) (fun hc35 => ?_) | refine wp_condNB rfl (fun hc35 => ?_) (fun hc35 => ?_) | refine wp_cond' rfl (fun hc35 => ?_) (fun hc35 => ?_)
    ·refine wp_seq' fun K9 hK9 => ?_
     refine wp_reg ?_
     refine ol_r (r_move rfl) rfl ?_
     refine ol_r (r_neq rfl rfl) rfl ?_
     refine ol_r (r_move rfl) rfl ?_
     refine ol_r (r_neq rfl rfl) rfl ?_
     refine ol_r (r_beql rfl rfl (by kernel_rfl)) rfl ?_
     refine ol_r (r_move rfl) rfl ?_
     refine ol_split (d := 41) rfl (fun hs41 => ?_) (fun hs41 => ?_)
     ·have phs41 := hs41; try simp only [decide_eq_true_eq, decide_eq_false_iff_not, Bool.not_eq_true', Bool.not_eq_false', Bool.not_true, Bool.not_false] at phs41
      refine ol_g rfl rfl hs41 ?_
      refine ol_call rfl rfl cb12 rfl (fun w1 hb1 hs1 hB1 => Calls.mono (law5_told _) ?_)
      rintro e w2 ⟨rfl, hb2⟩
      refine After.below rfl hb1 hs1 hB1 hb2 ?_
      clear hb2 hB1 hs1 hb1 w2 w1
      refine ol_r (r_pickT rfl hs41 rfl) rfl ?_
      refine ol_r (r_assign rfl) rfl ?_
      refine ol_nil (to_k0 (fun _ _ h => h) (hK9 _ _ _ _ _ ?_))
      clear hK9
      refine hQ.ret (rvs1 (rv_t rfl)) (fun _ _ h => h) fun w hb hs hB hkd => ?_
      first
        | exact ⟨rfl, hb⟩
        | (exfalso; rw [apR_snd, apR_snd, hsy] at hs41; simp at hs41; done)
        | (exfalso; simp at hs67; done)
        | (exfalso; simp at hs72; done)
        | (exfalso; simp at hs76; done)
        | (exfalso; exact of_decide_eq_false hs88 (apV_first hx80 hx83))
        | (exfalso; exact of_decide_eq_false hs100 (apV_last hx92 hx95))
     ·have phs41 := hs41; try simp only [decide_eq_true_eq, decide_eq_false_iff_not, Bool.not_eq_true', Bool.not_eq_false', Bool.not_true, Bool.not_false] at phs41
      refine ol_s rfl rfl hs41 rfl ?_
      refine ol_r (r_pickF rfl hs41 rfl) rfl ?_
      refine ol_r (r_assign rfl) rfl ?_
      refine ol_nil (to_k0 (fun _ _ h => h) (hK9 _ _ _ _ _ ?_))
      clear hK9
      refine hQ.ret (rvs1 (rv_t rfl)) (fun _ _ h => h) fun w hb hs hB hkd => ?_
      first
        | exact ⟨rfl, hb⟩
        | (exfalso; rw [apR_snd, apR_snd, hsy] at hs41; simp at hs41; done)
        | (exfalso; simp at hs67; done)
        | (exfalso; simp at hs72; done)
        | (exfalso; simp at hs76; done)
        | (exfalso; exact of_decide_eq_false hs88 (apV_first hx80 hx83))
        | (exfalso; exact of_decide_eq_false hs100 (apV_last hx92 hx95))
    ·refine wp_skip' (to_k0 (fun _ _ h => h) (hK6 _ _ _ _ _ ?_))
     clear hK6
     refine wp_seq' fun K10 hK10 => ?_
     refine wp_reg ?_
     have h0 : apE xs ys = 0 := by
       have h1 := phs32
       rw [apR_snd] at h1
       exact Decidable.not_not.1 h1
     obtain ⟨hl0, hm0, hl1, hl2, hpx, hpy⟩ := apE_inv h0
     refine ol_r (r_move rfl) rfl ?_
     refine ol_r (r_move rfl) rfl ?_
     refine ol_call rfl rfl cb27 rfl (fun w1 hb1 hs1 hB1 => Calls.mono (match_Apart _ _ _ _ _ _ xs xs _ (hx.at hb1 hB1) (hx.at hb1 hB1)) ?_)
     rintro e w2 ⟨rfl, hb2⟩
     refine After.below rfl hb1 hs1 hB1 hb2 ?_
     clear hb2 hB1 hs1 hb1 w2 w1
     refine ol_r (r_move rfl) rfl ?_
     refine ol_r (r_extract rfl rfl) rfl ?_
     refine ol_r (r_extract rfl rfl) rfl ?_
     refine ol_r (r_assign rfl) rfl ?_
     refine ol_r (r_assign rfl) rfl ?_
     refine ol_nil (to_k0 (fun _ _ h => h) (hK10 _ _ _ _ _ ?_))
     clear hK10
     refine wp_seq' fun K11 hK11 => ?_
     refine wp_reg ?_
     refine ol_r (r_move rfl) rfl ?_
     refine ol_call rfl rfl cb28 rfl (fun w1 hb1 hs1 hB1 => Calls.mono (clone_pt _ _ _ xs _ (hx.at hb1 hB1) (by omega)) ?_)
     rintro e w2 ⟨a51, n51, c51, rfl, hf51⟩
     refine After.fresh (id := 51) rfl hb1 hs1 hB1 hf51 ?_
     have hl51 := hf51.len; clear hf51 hB1 hs1 hb1 w2 w1
     refine ol_r (r_move rfl) rfl ?_
     refine ol_call rfl rfl cb28 rfl (fun w1 hb1 hs1 hB1 => Calls.mono (clone_pt _ _ _ ys _ (hy.at hb1 hB1) (by omega)) ?_)
     rintro e w2 ⟨a53, n53, c53, rfl, hf53⟩
     refine After.fresh (id := 53) rfl hb1 hs1 hB1 hf53 ?_
     have hl53 := hf53.len; clear hf53 hB1 hs1 hb1 w2 w1
     refine ol_r (r_assign rfl) rfl ?_
     refine ol_r (r_assign rfl) rfl ?_
     refine ol_nil (to_k0 (fun _ _ h => h) (hK11 _ _ _ _ _ ?_))
     clear hK11
     refine wp_seq' fun K12 hK12 => ?_
     refine wp_reg ?_
     refine ol_r (r_move rfl) rfl ?_
     refine ol_call rfl rfl cb29 rfl (fun w1 hb1 hs1 hB1 => ?_)
     refine Calls.mono (rev_pt w.heap.size a51 n51 c51 xs (.row a53 n53 c53 (encPoint.enc ys) 62 2) _ hl51 (by omega) hB1 (hs1.kle [(51, 300), (53, 301)] (kle_cons rfl (Ent.le_refl _) (kle_cons rfl (Ent.le_refl _) kle_nil)) (by decide))) ?_
     rintro e w2 ⟨rfl, hb2, hs2, hB2, hk2⟩
     refine After.sat rfl hb1 hb2 (hs2.kle [(300, 51), (301, 53)] (kle_cons rfl (Ent.le_refl _) (kle_cons rfl (Ent.le_refl _) kle_nil)) (by decide)) hB2 (hk2.imp fun _ h => h.elim) ?_
     clear hk2 hs2 hb2 hB2 hB1 hs1 hb1 w2 w1
     refine ol_nil (to_k0 (fun _ _ h => h) (hK12 _ _ _ _ _ ?_))
     clear hK12
     refine wp_seq' fun K13 hK13 => ?_
     refine wp_reg ?_
     refine ol_r (r_move rfl) rfl ?_
     refine ol_call rfl rfl cb29 rfl (fun w1 hb1 hs1 hB1 => ?_)
     refine Calls.mono (rev_pt w.heap.size a53 n53 c53 ys (.row a51 n51 c51 (encPoint.enc xs.reverse) 62 2) _ hl53 (by omega) hB1 (hs1.kle [(53, 300), (51, 301)] (kle_cons rfl (Ent.le_refl _) (kle_cons rfl (Ent.le_refl _) kle_nil)) (by decide))) ?_
     rintro e w2 ⟨rfl, hb2, hs2, hB2, hk2⟩
     refine After.sat rfl hb1 hb2 (hs2.kle [(300, 53), (301, 51)] (kle_cons rfl (Ent.le_refl _) (kle_cons rfl (Ent.le_refl _) kle_nil)) (by decide)) hB2 (hk2.imp fun _ h => h.elim) ?_
     clear hk2 hs2 hb2 hB2 hB1 hs1 hb1 w2 w1
     refine ol_nil (to_k0 (fun _ _ h => h) (hK13 _ _ _ _ _ ?_))
     clear hK13
     refine wp_seq' fun K14 hK14 => ?_
     refine wp_reg ?_
     refine ol_r (r_move rfl) rfl ?_
     refine ol_r (r_move rfl) rfl ?_
     refine ol_call rfl rfl cb27 rfl (fun w1 hb1 hs1 hB1 => Calls.mono (match_Apart _ _ _ _ _ _ xs.reverse ys.reverse _ (Sat.rd hs1 (E := encPoint) (id := 51) rfl rfl) (Sat.rd hs1 (E := encPoint) (id := 53) rfl rfl)) ?_)
     rintro e w2 ⟨rfl, hb2⟩
     refine After.below rfl hb1 hs1 hB1 hb2 ?_
     clear hb2 hB1 hs1 hb1 w2 w1
     refine ol_r (r_move rfl) rfl ?_
     refine ol_r (r_extract rfl rfl) rfl ?_
     refine ol_r (r_extract rfl rfl) rfl ?_
     refine ol_r (r_assign rfl) rfl ?_
     refine ol_r (r_assign rfl) rfl ?_
     refine ol_nil (to_k0 (fun _ _ h => h) (hK14 _ _ _ _ _ ?_))
     clear hK14
     refine wp_seq' fun K15 hK15 => ?_
     refine wp_reg ?_
     refine ol_r (r_assign rfl) rfl ?_
     refine ol_nil (to_k0 (fun _ _ h => h) (hK15 _ _ _ _ _ ?_))
     clear hK15
     refine wp_seq' fun K16 hK16 => ?_
     refine wp_regq (by kernel_rfl) (by kernel_rfl) ?_
     have r1 : xs.reverse.length = n51 := by rw [List.length_reverse]; exact hl51
     have r2 : ys.reverse.length = n53 := by rw [List.length_reverse]; exact hl53
     have e1 := apR_0 h0
     have e2 := apR_0 (hsy.trans h0)
     have e3 := apR_0 (apE_self h0)
     have e4 := apR_0 (apE_back h0)
     rw [e1, e2, e3, e4]
     dsimp only
     rw [apV_symm ys xs, apV_self, apV_back (List.ne_nil_of_length_pos hl0) (List.ne_nil_of_length_pos hm0)]
     refine ql_r (r_move rfl) rfl ?_
     refine ql_r (r_move rfl) rfl ?_
     refine ql_r (r_eql rfl rfl) rfl ?_
     refine ql_r (r_move rfl) rfl ?_
     refine ql_split (d := 67) rfl (fun hs67 => ?_) (fun hs67 => ?_)
     ·have phs67 := hs67; try simp only [decide_eq_true_eq, decide_eq_false_iff_not, Bool.not_eq_true', Bool.not_eq_false', Bool.not_true, Bool.not_false] at phs67
      refine ql_g rfl rfl hs67 ?_
      refine ql_r (r_move rfl) rfl ?_
      refine ql_g rfl rfl hs67 ?_
      refine ql_r (r_move rfl) rfl ?_
      refine ql_g rfl rfl hs67 ?_
      refine ql_r (r_eql rfl rfl) rfl ?_
      refine ql_r (r_pickT rfl hs67 rfl) rfl ?_
      refine ql_r (r_move rfl) rfl ?_
      refine ql_split (d := 72) rfl (fun hs72 => ?_) (fun hs72 => ?_)
      ·have phs72 := hs72; try simp only [decide_eq_true_eq, decide_eq_false_iff_not, Bool.not_eq_true', Bool.not_eq_false', Bool.not_true, Bool.not_false] at phs72
       refine ql_g rfl rfl hs72 ?_
       refine ql_r (r_move rfl) rfl ?_
       refine ql_g rfl rfl hs72 ?_
       refine ql_r (r_eql rfl rfl) rfl ?_
       refine ql_r (r_pickT rfl hs72 rfl) rfl ?_
       refine ql_r (r_move rfl) rfl ?_
       refine ql_split (d := 76) rfl (fun hs76 => ?_) (fun hs76 => ?_)
       ·have phs76 := hs76; try simp only [decide_eq_true_eq, decide_eq_false_iff_not, Bool.not_eq_true', Bool.not_eq_false', Bool.not_true, Bool.not_false] at phs76
        refine ql_g rfl rfl hs76 ?_
        refine ql_r (r_move rfl) rfl ?_
        refine ql_g rfl rfl hs76 ?_
        refine ql_r (r_move rfl) rfl ?_
        refine ql_g rfl rfl hs76 ?_
        refine ql_r (r_move rfl) rfl ?_
        refine ql_g rfl rfl hs76 ?_
        refine ql_ixr hx rfl rfl sl57 (by omega) rfl fun x80 hx80 => ?_
        try simp only [Int.toNat_natCast] at hx80
        refine ql_g rfl rfl hs76 ?_
        refine ql_r (r_ldw rfl (fun w1 hb1 hs1 hB1 => Rd.loads hx ty62 hx80 hb1)) rfl ?_
        refine ql_g rfl rfl hs76 ?_
        refine ql_r (r_move rfl) rfl ?_
        refine ql_g rfl rfl hs76 ?_
        refine ql_ixr hy rfl rfl sl57 (by omega) rfl fun x83 hx83 => ?_
        try simp only [Int.toNat_natCast] at hx83
        refine ql_g rfl rfl hs76 ?_
        refine ql_r (r_ldw rfl (fun w1 hb1 hs1 hB1 => Rd.loads hy ty62 hx83 hb1)) rfl ?_
        refine ql_g rfl rfl hs76 ?_
        refine ql_call rfl rfl cb30 rfl (fun w1 hb1 hs1 hB1 => law_far _ _ _ (hpx _ (List.mem_of_getElem? hx80)) (hpy _ (List.mem_of_getElem? hx83))) ?_
        refine ql_g rfl rfl hs76 ?_
        refine ql_r (r_geq rfl rfl) rfl ?_
        refine ql_r (r_pickT rfl hs76 rfl) rfl ?_
        refine ql_r (r_move rfl) rfl ?_
        refine ql_split (d := 88) rfl (fun hs88 => ?_) (fun hs88 => ?_)
        ·have phs88 := hs88; try simp only [decide_eq_true_eq, decide_eq_false_iff_not, Bool.not_eq_true', Bool.not_eq_false', Bool.not_true, Bool.not_false] at phs88
         refine ql_g rfl rfl hs88 ?_
         refine ql_r (r_move rfl) rfl ?_
         refine ql_g rfl rfl hs88 ?_
         refine ql_r (r_move rfl) rfl ?_
         refine ql_g rfl rfl hs88 ?_
         refine ql_r (r_move rfl) rfl ?_
         refine ql_g rfl rfl hs88 ?_
         refine ql_ixo (id := 51) encPoint _ rfl rfl rfl rfl sl57 (by omega) (by omega) rfl fun x92 hx92 => ?_
         try simp only [Int.toNat_natCast] at hx92
         try simp only [Int.toNat_natCast] at hx92
         refine ql_g rfl rfl hs88 ?_
         refine ql_r (r_ldw rfl (fun w1 hb1 hs1 hB1 => ld_own (id := 51) hs1 rfl rfl ty62 hx92)) rfl ?_
         refine ql_g rfl rfl hs88 ?_
         refine ql_r (r_move rfl) rfl ?_
         refine ql_g rfl rfl hs88 ?_
         refine ql_ixo (id := 53) encPoint _ rfl rfl rfl rfl sl57 (by omega) (by omega) rfl fun x95 hx95 => ?_
         try simp only [Int.toNat_natCast] at hx95
         try simp only [Int.toNat_natCast] at hx95
         refine ql_g rfl rfl hs88 ?_
         refine ql_r (r_ldw rfl (fun w1 hb1 hs1 hB1 => ld_own (id := 53) hs1 rfl rfl ty62 hx95)) rfl ?_
         refine ql_g rfl rfl hs88 ?_
         refine ql_call rfl rfl cb30 rfl (fun w1 hb1 hs1 hB1 => law_far _ _ _ (hpx _ (by simpa using List.mem_of_getElem? hx92)) (hpy _ (by simpa using List.mem_of_getElem? hx95))) ?_
         refine ql_g rfl rfl hs88 ?_
         refine ql_r (r_geq rfl rfl) rfl ?_
         refine ql_r (r_pickT rfl hs88 rfl) rfl ?_
         refine ql_r (r_move rfl) rfl ?_
         refine ql_split (d := 100) rfl (fun hs100 => ?_) (fun hs100 => ?_)
         ·have phs100 := hs100; try simp only [decide_eq_true_eq, decide_eq_false_iff_not, Bool.not_eq_true', Bool.not_eq_false', Bool.not_true, Bool.not_false] at phs100
          refine ql_g rfl rfl hs100 ?_
          refine ql_call rfl rfl cb12 rfl (fun w1 hb1 hs1 hB1 => law5_told _) ?_
          refine ql_r (r_pickT rfl hs100 rfl) rfl ?_
          refine ql_r (r_assign rfl) rfl ?_
          refine ql_nil (to_k0 (fun _ _ h => h) (hK16 _ _ _ _ _ ?_))
          clear hK16
          refine hQ.ret (rvs1 (rv_t rfl)) (fun _ _ h => h) fun w hb hs hB hkd => ?_
          first
            | exact ⟨rfl, hb⟩
            | (exfalso; rw [apR_snd, apR_snd, hsy] at hs41; simp at hs41; done)
            | (exfalso; simp at hs67; done)
            | (exfalso; simp at hs72; done)
            | (exfalso; simp at hs76; done)
            | (exfalso; exact of_decide_eq_false hs88 (apV_first hx80 hx83))
            | (exfalso; exact of_decide_eq_false hs100 (apV_last hx92 hx95))
         ·have phs100 := hs100; try simp only [decide_eq_true_eq, decide_eq_false_iff_not, Bool.not_eq_true', Bool.not_eq_false', Bool.not_true, Bool.not_false] at phs100
          refine ql_s rfl rfl hs100 rfl ?_
          refine ql_r (r_pickF rfl hs100 rfl) rfl ?_
          refine ql_r (r_assign rfl) rfl ?_
          refine ql_nil (to_k0 (fun _ _ h => h) (hK16 _ _ _ _ _ ?_))
          clear hK16
          refine hQ.ret (rvs1 (rv_t rfl)) (fun _ _ h => h) fun w hb hs hB hkd => ?_
          first
            | exact ⟨rfl, hb⟩
            | (exfalso; rw [apR_snd, apR_snd, hsy] at hs41; simp at hs41; done)
            | (exfalso; simp at hs67; done)
            | (exfalso; simp at hs72; done)
            | (exfalso; simp at hs76; done)
            | (exfalso; exact of_decide_eq_false hs88 (apV_first hx80 hx83))
            | (exfalso; exact of_decide_eq_false hs100 (apV_last hx92 hx95))
        ·have phs88 := hs88; try simp only [decide_eq_true_eq, decide_eq_false_iff_not, Bool.not_eq_true', Bool.not_eq_false', Bool.not_true, Bool.not_false] at phs88
         refine ql_s rfl rfl hs88 rfl ?_
         refine ql_s rfl rfl hs88 rfl ?_
         refine ql_s rfl rfl hs88 rfl ?_
         refine ql_s rfl rfl hs88 rfl ?_
         refine ql_s rfl rfl hs88 rfl ?_
         refine ql_s rfl rfl hs88 rfl ?_
         refine ql_s rfl rfl hs88 rfl ?_
         refine ql_s rfl rfl hs88 rfl ?_
         refine ql_s rfl rfl hs88 rfl ?_
         refine ql_s rfl rfl hs88 rfl ?_
         refine ql_r (r_pickF rfl hs88 rfl) rfl ?_
         refine ql_r (r_move rfl) rfl ?_
         refine ql_s rfl rfl rfl rfl ?_
         refine ql_r (r_pickF rfl rfl rfl) rfl ?_
         refine ql_r (r_assign rfl) rfl ?_
         refine ql_nil (to_k0 (fun _ _ h => h) (hK16 _ _ _ _ _ ?_))
         clear hK16
         refine hQ.ret (rvs1 (rv_t rfl)) (fun _ _ h => h) fun w hb hs hB hkd => ?_
         first
           | exact ⟨rfl, hb⟩
           | (exfalso; rw [apR_snd, apR_snd, hsy] at hs41; simp at hs41; done)
           | (exfalso; simp at hs67; done)
           | (exfalso; simp at hs72; done)
           | (exfalso; simp at hs76; done)
           | (exfalso; exact of_decide_eq_false hs88 (apV_first hx80 hx83))
           | (exfalso; exact of_decide_eq_false hs100 (apV_last hx92 hx95))
       ·have phs76 := hs76; try simp only [decide_eq_true_eq, decide_eq_false_iff_not, Bool.not_eq_true', Bool.not_eq_false', Bool.not_true, Bool.not_false] at phs76
        refine ql_s rfl rfl hs76 rfl ?_
        refine ql_s rfl rfl hs76 rfl ?_
        refine ql_s rfl rfl hs76 rfl ?_
        refine ql_s rfl rfl hs76 rfl ?_
        refine ql_s rfl rfl hs76 rfl ?_
        refine ql_s rfl rfl hs76 rfl ?_
        refine ql_s rfl rfl hs76 rfl ?_
        refine ql_s rfl rfl hs76 rfl ?_
        refine ql_s rfl rfl hs76 rfl ?_
        refine ql_s rfl rfl hs76 rfl ?_
        refine ql_r (r_pickF rfl hs76 rfl) rfl ?_
        refine ql_r (r_move rfl) rfl ?_
        refine ql_s rfl rfl rfl rfl ?_
        refine ql_s rfl rfl rfl rfl ?_
        refine ql_s rfl rfl rfl rfl ?_
        refine ql_s rfl rfl rfl rfl ?_
        refine ql_s rfl rfl rfl rfl ?_
        refine ql_s rfl rfl rfl rfl ?_
        refine ql_s rfl rfl rfl rfl ?_
        refine ql_s rfl rfl rfl rfl ?_
        refine ql_s rfl rfl rfl rfl ?_
        refine ql_s rfl rfl rfl rfl ?_
        refine ql_r (r_pickF rfl rfl rfl) rfl ?_
        refine ql_r (r_move rfl) rfl ?_
        refine ql_s rfl rfl rfl rfl ?_
        refine ql_r (r_pickF rfl rfl rfl) rfl ?_
        refine ql_r (r_assign rfl) rfl ?_
        refine ql_nil (to_k0 (fun _ _ h => h) (hK16 _ _ _ _ _ ?_))
        clear hK16
        refine hQ.ret (rvs1 (rv_t rfl)) (fun _ _ h => h) fun w hb hs hB hkd => ?_
        first
          | exact ⟨rfl, hb⟩
          | (exfalso; rw [apR_snd, apR_snd, hsy] at hs41; simp at hs41; done)
          | (exfalso; simp at hs67; done)
          | (exfalso; simp at hs72; done)
          | (exfalso; simp at hs76; done)
          | (exfalso; exact of_decide_eq_false hs88 (apV_first hx80 hx83))
          | (exfalso; exact of_decide_eq_false hs100 (apV_last hx92 hx95))
      ·have phs72 := hs72; try simp only [decide_eq_true_eq, decide_eq_false_iff_not, Bool.not_eq_true', Bool.not_eq_false', Bool.not_true, Bool.not_false] at phs72
       refine ql_s rfl rfl hs72 rfl ?_
       refine ql_s rfl rfl hs72 rfl ?_
       refine ql_r (r_pickF rfl hs72 rfl) rfl ?_
       refine ql_r (r_move rfl) rfl ?_
       refine ql_s rfl rfl rfl rfl ?_
       refine ql_s rfl rfl rfl rfl ?_
       refine ql_s rfl rfl rfl rfl ?_
       refine ql_s rfl rfl rfl rfl ?_
       refine ql_s rfl rfl rfl rfl ?_
       refine ql_s rfl rfl rfl rfl ?_
       refine ql_s rfl rfl rfl rfl ?_
       refine ql_s rfl rfl rfl rfl ?_
       refine ql_s rfl rfl rfl rfl ?_
       refine ql_s rfl rfl rfl rfl ?_
       refine ql_r (r_pickF rfl rfl rfl) rfl ?_
       refine ql_r (r_move rfl) rfl ?_
       refine ql_s rfl rfl rfl rfl ?_
       refine ql_s rfl rfl rfl rfl ?_
       refine ql_s rfl rfl rfl rfl ?_
       refine ql_s rfl rfl rfl rfl ?_
       refine ql_s rfl rfl rfl rfl ?_
       refine ql_s rfl rfl rfl rfl ?_
       refine ql_s rfl rfl rfl rfl ?_
       refine ql_s rfl rfl rfl rfl ?_
       refine ql_s rfl rfl rfl rfl ?_
       refine ql_s rfl rfl rfl rfl ?_
       refine ql_r (r_pickF rfl rfl rfl) rfl ?_
       refine ql_r (r_move rfl) rfl ?_
       refine ql_s rfl rfl rfl rfl ?_
       refine ql_r (r_pickF rfl rfl rfl) rfl ?_
       refine ql_r (r_assign rfl) rfl ?_
       refine ql_nil (to_k0 (fun _ _ h => h) (hK16 _ _ _ _ _ ?_))
       clear hK16
       refine hQ.ret (rvs1 (rv_t rfl)) (fun _ _ h => h) fun w hb hs hB hkd => ?_
       first
         | exact ⟨rfl, hb⟩
         | (exfalso; rw [apR_snd, apR_snd, hsy] at hs41; simp at hs41; done)
         | (exfalso; simp at hs67; done)
         | (exfalso; simp at hs72; done)
         | (exfalso; simp at hs76; done)
         | (exfalso; exact of_decide_eq_false hs88 (apV_first hx80 hx83))
         | (exfalso; exact of_decide_eq_false hs100 (apV_last hx92 hx95))
     ·have phs67 := hs67; try simp only [decide_eq_true_eq, decide_eq_false_iff_not, Bool.not_eq_true', Bool.not_eq_false', Bool.not_true, Bool.not_false] at phs67
      refine ql_s rfl rfl hs67 rfl ?_
      refine ql_s rfl rfl hs67 rfl ?_
      refine ql_s rfl rfl hs67 rfl ?_
      refine ql_r (r_pickF rfl hs67 rfl) rfl ?_
      refine ql_r (r_move rfl) rfl ?_
      refine ql_s rfl rfl rfl rfl ?_
      refine ql_s rfl rfl rfl rfl ?_
      refine ql_r (r_pickF rfl rfl rfl) rfl ?_
      refine ql_r (r_move rfl) rfl ?_
      refine ql_s rfl rfl rfl rfl ?_
      refine ql_s rfl rfl rfl rfl ?_
      refine ql_s rfl rfl rfl rfl ?_
      refine ql_s rfl rfl rfl rfl ?_
      refine ql_s rfl rfl rfl rfl ?_
      refine ql_s rfl rfl rfl rfl ?_
      refine ql_s rfl rfl rfl rfl ?_
      refine ql_s rfl rfl rfl rfl ?_
      refine ql_s rfl rfl rfl rfl ?_
      refine ql_s rfl rfl rfl rfl ?_
      refine ql_r (r_pickF rfl rfl rfl) rfl ?_
      refine ql_r (r_move rfl) rfl ?_
      refine ql_s rfl rfl rfl rfl ?_
      refine ql_s rfl rfl rfl rfl ?_
      refine ql_s rfl rfl rfl rfl ?_
      refine ql_s rfl rfl rfl rfl ?_
      refine ql_s rfl rfl rfl rfl ?_
      refine ql_s rfl rfl rfl rfl ?_
      refine ql_s rfl rfl rfl rfl ?_
      refine ql_s rfl rfl rfl rfl ?_
      refine ql_s rfl rfl rfl rfl ?_
      refine ql_s rfl rfl rfl rfl ?_
      refine ql_r (r_pickF rfl rfl rfl) rfl ?_
      refine ql_r (r_move rfl) rfl ?_
      refine ql_s rfl rfl rfl rfl ?_
      refine ql_r (r_pickF rfl rfl rfl) rfl ?_
      refine ql_r (r_assign rfl) rfl ?_
      refine ql_nil (to_k0 (fun _ _ h => h) (hK16 _ _ _ _ _ ?_))
      clear hK16
      refine hQ.ret (rvs1 (rv_t rfl)) (fun _ _ h => h) fun w hb hs hB hkd => ?_
      first
        | exact ⟨rfl, hb⟩
        | (exfalso; rw [apR_snd, apR_snd, hsy] at hs41; simp at hs41; done)
        | (exfalso; simp at hs67; done)
        | (exfalso; simp at hs72; done)
        | (exfalso; simp at hs76; done)
        | (exfalso; exact of_decide_eq_false hs88 (apV_first hx80 hx83))
        | (exfalso; exact of_decide_eq_false hs100 (apV_last hx92 hx95))
end Go.Proofs.Ytbbhcffkleplnaa
