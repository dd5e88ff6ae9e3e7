/-
  Needed, program and reference; the walk of LoadNeededMatchesSpec.
-/
import Derived.Test.YtamlldedmhkobaaLoadMore
import Derived.Test.YtamlldedmhkobaaSearch
namespace Go.Proofs.Ytamlldedmhkobaa
open Go Go.RowKit Hx
set_option linter.unusedVariables false
set_option linter.unusedSimpArgs false

theorem load_needed1 (x f d c aim : Int) (b1 b2 b3 b4 : Nat) (w : World) (h1 : Blk w.heap.size w b1 [(0, .int .i64 f)]) (h2 : Blk w.heap.size w b2 [(0, .int .i64 d)]) (h3 : Blk w.heap.size w b3 [(0, .int .i64 c)]) (h4 : Blk w.heap.size w b4 [(0, .int .i64 aim)])
    (hx : 0 ≤ x ∧ x ≤ 10000) (hf : 0 ≤ f ∧ f ≤ 10000000) (hd : 0 ≤ d ∧ d ≤ 5000) (hc : 1 ≤ c) :
    Calls Try.prog 70 #[.int .i64 x, .pointer (some ⟨b1, 0, none⟩), .pointer (some ⟨b2, 0, none⟩), .pointer (some ⟨b3, 0, none⟩), .pointer (some ⟨b4, 0, none⟩)] w fun e w' => e = .returned (.bool (enough c f d.toNat aim x)) ∧ Below w.heap.size w w' := by
  refine enterQ (N := 20) (H := []) (B := w.heap.size) (args := [_, _, _, _, _]) Try.func70 rfl rfl rfl (Nat.le_refl _) (Sat.nil _ _) fun Q hQ => ?_
  refine wp_seq' fun K1 hK1 => ?_
  refine wp_reg ?_
  refine ol_r (r_assign rfl) rfl ?_
  refine ol_nil (to_k0 (fun _ _ h => h) (hK1 _ _ ?_))
  clear hK1
  refine wp_seq' fun K2 hK2 => ?_
  refine wp_reg ?_
  refine ol_r (r_ldw rfl (fun w1 hb1 hs1 hB1 => Blk.loads (o := 0) h1 hb1 sc3 rfl)) rfl ?_
  refine ol_r (r_assign rfl) rfl ?_
  refine ol_nil (to_k0 (fun _ _ h => h) (hK2 _ _ ?_))
  clear hK2
  refine wp_seq' fun K3 hK3 => ?_
  refine wp_seq' fun K4 hK4 => ?_
  refine wp_reg ?_
  refine ol_r (r_ldw rfl (fun w1 hb1 hs1 hB1 => Blk.loads (o := 0) h2 hb1 sc3 rfl)) rfl ?_
  refine ol_r (r_move rfl) rfl ?_
  refine ol_nil (to_k0 (fun _ _ h => h) (hK4 _ _ ?_))
  clear hK4
  refine wp_block' ?_
  apply wp_loopM (σ := Nat × Int) (fun s => (s.1 : Int) ≤ d ∧ s.2 = behindM c f x s.1) (fun s => [(10, .int .i64 s.1), (7, .int .i64 s.2)]) [(0, _), (3, _), (4, _), (6, _), (9, _)] (fun s => []) [] (fun s => d.toNat - s.1) ((0, f))
  · try dsimp only
    exact ⟨by omega, rfl⟩
  · exact (sub_cons rfl (sub_cons rfl sub_nil))
  · exact (sub_cons rfl (sub_cons rfl (sub_cons rfl (sub_cons rfl (sub_cons rfl sub_nil)))))
  · exact subH_nil
  · exact subH_nil
  · rintro ⟨k, v⟩ ⟨hk, hv⟩
    dsimp only at hk hv ⊢
    intro K5 hK5
    refine wp_seq' fun K6 hK6 => ?_
    refine wp_reg ?_
    refine ol_r (r_lss rfl rfl) rfl ?_
    refine ol_nil (to_k0 (fun _ _ h => h) (hK6 _ _ ?_))
    clear hK6
    refine wp_seq' fun K7 hK7 => ?_
    first | refine wp_condD rfl (fun hc11 => ?_) (fun hc11 => ?_) | refine wp_condN rfl (fun hc11 => ?_) (fun hc11 => ?_) | refine wp_condNB rfl (fun hc11 => ?_) (fun hc11 => ?_) | refine wp_cond' rfl (fun hc11 => ?_) (fun hc11 => ?_)
    · refine wp_skip' (to_k0 (fun _ _ h => h) (hK7 _ _ ?_))
      clear hK7
      refine wp_seq' fun K8 hK8 => ?_
      refine wp_block' ?_
      refine wp_reg ?_
      refine ol_r (r_move rfl) rfl ?_
      refine ol_r (r_move rfl) rfl ?_
      refine ol_r (r_ldw rfl (fun w1 hb1 hs1 hB1 => Blk.loads (o := 0) h3 hb1 sc3 rfl)) rfl ?_
      refine ol_call rfl rfl cb68 rfl (fun w1 hb1 hs1 hB1 => Calls.mono (load_step _ _ _ (by rw [hv]; exact behindM_bd hc hf hx k) hx hc _) ?_)
      rintro e w2 ⟨rfl, hb2⟩
      refine After.below rfl hb1 hs1 hB1 hb2 ?_
      clear hb2 hB1 hs1 hb1 w2 w1
      refine ol_r (r_assign rfl) rfl ?_
      refine ol_nil (to_k0 (fun _ _ h => h) (hK8 _ _ ?_))
      clear hK8
      refine wp_reg ?_
      refine ol_r (r_add rfl rfl (by omega)) rfl ?_
      refine ol_r (r_move rfl) rfl ?_
      refine ol_nil (to_k0 (fun _ _ h => h) (hK5 ((k + 1, _)) _ _ ?_ ?_ (sub_cons rfl (sub_cons rfl sub_nil)) (sub_cons rfl (sub_cons rfl (sub_cons rfl (sub_cons rfl (sub_cons rfl sub_nil))))) (by exact subH_nil) subH_nil))
      · try dsimp only
        exact ⟨by omega, by rw [behindM_succ, ← hv]; rfl⟩
      · try dsimp only
        omega
    · refine wp_exit' (to_k0 (fun _ _ h => h) (hK3 _ _ ?_))
      clear hK3
      refine wp_seq' fun K9 hK9 => ?_
      refine wp_reg ?_
      refine ol_r (r_move rfl) rfl ?_
      refine ol_r (r_ldw rfl (fun w1 hb1 hs1 hB1 => Blk.loads (o := 0) h4 hb1 sc3 rfl)) rfl ?_
      refine ol_r (r_geq rfl rfl) rfl ?_
      refine ol_r (r_assign rfl) rfl ?_
      refine ol_nil (to_k0 (fun _ _ h => h) (hK9 _ _ ?_))
      clear hK9
      refine hQ.ret (rvs1 (rv_t rfl)) (fun _ _ h => h) fun w hb hs hB => ?_
      have : d.toNat = k := by omega
      exact ⟨by unfold enough; rw [this, hv], hb⟩

theorem load_Needed (f c d aim : Int) (w : World) : Calls Try.prog 21 #[.int .i64 f, .int .i64 c, .int .i64 d, .int .i64 aim] w fun e w' =>
    e = .returned (.tuple #[.int .i64 (neededR f c d aim).1, .bool (neededR f c d aim).2.1, .int .i64 (neededR f c d aim).2.2]) ∧ Below w.heap.size w w' := by
  refine enterQ (N := 36) (H := []) (B := w.heap.size) (args := [_, _, _, _]) Try.func21 rfl rfl rfl (Nat.le_refl _) (Sat.nil _ _) fun Q hQ => ?_
  refine wp_seq' fun K1 hK1 => ?_
  refine wp_reg ?_
  refine ol_box 4 rfl rfl rfl fun b4 => ?_
  refine ol_box 5 rfl rfl rfl fun b5 => ?_
  refine ol_box 6 rfl rfl rfl fun b6 => ?_
  refine ol_box 7 rfl rfl rfl fun b7 => ?_
  refine ol_r (r_assign rfl) rfl ?_
  refine ol_r (r_assign rfl) rfl ?_
  refine ol_r (r_assign rfl) rfl ?_
  refine ol_nil (to_k0 (fun _ _ h => h) (hK1 _ _ ?_))
  clear hK1
  refine wp_seq' fun K2 hK2 => ?_
  refine wp_seq' fun K3 hK3 => ?_
  refine wp_reg ?_
  refine ol_r (r_ld (id := 4) rfl rfl rfl sc3) rfl ?_
  refine ol_r (r_ld (id := 5) rfl rfl rfl sc3) rfl ?_
  refine ol_call rfl rfl cb18 rfl (fun w1 hb1 hs1 hB1 => Calls.mono (load_Step _ _ _ _) ?_)
  rintro e w2 ⟨rfl, hb2⟩
  refine After.below rfl hb1 hs1 hB1 hb2 ?_
  clear hb2 hB1 hs1 hb1 w2 w1
  refine ol_r (r_move rfl) rfl ?_
  refine ol_r (r_extract rfl rfl) rfl ?_
  refine ol_r (r_extract rfl rfl) rfl ?_
  refine ol_r (r_assign rfl) rfl ?_
  refine ol_r (r_assign rfl) rfl ?_
  refine ol_nil (to_k0 (fun _ _ h => h) (hK3 _ _ ?_))
  clear hK3
  refine wp_seq' fun K4 hK4 => ?_
  refine wp_reg ?_
  refine ol_r (r_move rfl) rfl ?_
  refine ol_r (r_neq rfl rfl) rfl ?_
  refine ol_nil (to_k0 (fun _ _ h => h) (hK4 _ _ ?_))
  clear hK4
  first | refine wp_condD rfl (fun hc21 => ?_) (fun hc21 => ?_) | refine wp_condN rfl (fun hc21 => ?_) (fun hc21 => ?_) | refine wp_condNB rfl (fun hc21 => ?_) (fun hc21 => ?_) | refine wp_cond' rfl (fun hc21 => ?_) (fun hc21 => ?_)
  · refine wp_seq' fun K5 hK5 => ?_
    refine wp_reg ?_
    refine ol_r (r_move rfl) rfl ?_
    refine ol_r (r_assign rfl) rfl ?_
    refine ol_r (r_assign rfl) rfl ?_
    refine ol_r (r_assign rfl) rfl ?_
    refine ol_nil (to_k0 (fun _ _ h => h) (hK5 _ _ ?_))
    clear hK5
    refine hQ.ret (rvs3 (rv_t rfl) (rv_t rfl) (rv_t rfl)) (fun _ _ h => h) fun w hb hs hB => ?_
    exact ⟨by rw [neededR_1 (stepR_fault hc21), stepR_no hc21], hb⟩
  · refine wp_skip' (to_k0 (fun _ _ h => h) (hK2 _ _ ?_))
    clear hK2
    refine wp_seq' fun K6 hK6 => ?_
    refine wp_seq' fun K7 hK7 => ?_
    refine wp_reg ?_
    refine ol_r (r_ld (id := 6) rfl rfl rfl sc3) rfl ?_
    refine ol_call rfl rfl cb67 rfl (fun w1 hb1 hs1 hB1 => Calls.mono (load_in _ _ _ _) ?_)
    rintro e w2 ⟨rfl, hb2⟩
    refine After.below rfl hb1 hs1 hB1 hb2 ?_
    clear hb2 hB1 hs1 hb1 w2 w1
    refine ol_r (r_not rfl) rfl ?_
    refine ol_r (r_move rfl) rfl ?_
    refine ol_split (d := 26) rfl (fun hs26 => ?_) (fun hs26 => ?_)
    · have phs26 := hs26; try simp only [decide_eq_true_eq, decide_eq_false_iff_not, Bool.not_eq_true', Bool.not_eq_false', Bool.not_true, Bool.not_false] at phs26
      refine ol_s rfl rfl hs26 rfl ?_
      refine ol_s rfl rfl hs26 rfl ?_
      refine ol_s rfl rfl hs26 rfl ?_
      refine ol_r (r_pickT rfl hs26 rfl) rfl ?_
      refine ol_nil (to_k0 (fun _ _ h => h) (hK7 _ _ ?_))
      clear hK7
      refine wp_condT rfl ?_
      refine wp_seq' fun K8 hK8 => ?_
      refine wp_reg ?_
      refine ol_r (r_assign rfl) rfl ?_
      refine ol_r (r_assign rfl) rfl ?_
      refine ol_r (r_assign rfl) rfl ?_
      refine ol_nil (to_k0 (fun _ _ h => h) (hK8 _ _ ?_))
      clear hK8
      refine hQ.ret (rvs3 (rv_t rfl) (rv_t rfl) (rv_t rfl)) (fun _ _ h => h) fun w hb hs hB => ?_
      have hS := stepR_ok (Decidable.not_not.1 hc21)
      exact ⟨by rw [neededR_2 (by rw [hS.1, hS.2.2.1]; rfl) (by rw [show inB d 0 5000 = false by simpa using hs26]; rfl)], hb⟩
    · have phs26 := hs26; try simp only [decide_eq_true_eq, decide_eq_false_iff_not, Bool.not_eq_true', Bool.not_eq_false', Bool.not_true, Bool.not_false] at phs26
      refine ol_g rfl rfl hs26 ?_
      refine ol_r (r_ld (id := 7) rfl rfl rfl sc3) rfl ?_
      refine ol_g rfl rfl hs26 ?_
      refine ol_call rfl rfl cb66 rfl (fun w1 hb1 hs1 hB1 => Calls.mono (load_isState _ _) ?_)
      rintro e w2 ⟨rfl, hb2⟩
      refine After.below rfl hb1 hs1 hB1 hb2 ?_
      clear hb2 hB1 hs1 hb1 w2 w1
      refine ol_g rfl rfl hs26 ?_
      refine ol_r (r_not rfl) rfl ?_
      refine ol_r (r_pickF rfl hs26 rfl) rfl ?_
      refine ol_nil (to_k0 (fun _ _ h => h) (hK7 _ _ ?_))
      clear hK7
      first | refine wp_condD rfl (fun hc30 => ?_) (fun hc30 => ?_) | refine wp_condN rfl (fun hc30 => ?_) (fun hc30 => ?_) | refine wp_condNB rfl (fun hc30 => ?_) (fun hc30 => ?_) | refine wp_cond' rfl (fun hc30 => ?_) (fun hc30 => ?_)
      · refine wp_seq' fun K9 hK9 => ?_
        refine wp_reg ?_
        refine ol_r (r_assign rfl) rfl ?_
        refine ol_r (r_assign rfl) rfl ?_
        refine ol_r (r_assign rfl) rfl ?_
        refine ol_nil (to_k0 (fun _ _ h => h) (hK9 _ _ ?_))
        clear hK9
        refine hQ.ret (rvs3 (rv_t rfl) (rv_t rfl) (rv_t rfl)) (fun _ _ h => h) fun w hb hs hB => ?_
        have hS := stepR_ok (Decidable.not_not.1 hc21)
        exact ⟨by rw [neededR_2 (by rw [hS.1, hS.2.2.1]; rfl) (by rw [hc30, Bool.and_false])], hb⟩
      · refine wp_skip' (to_k0 (fun _ _ h => h) (hK6 _ _ ?_))
        clear hK6
        refine wp_seq' fun K10 hK10 => ?_
        refine wp_reg ?_
        refine ol_r (r_func rfl) rfl ?_
        refine ol_call rfl rfl cb69 rfl (fun w1 hb1 hs1 hB1 => ?_)
        have hS := stepR_ok (Decidable.not_not.1 hc21)
        have hcc := (inB_iff.1 hS.2.2.1).1
        have hdd := inB_iff.1 (show inB d 0 5000 = true by simpa using hs26)
        refine Calls.mono (search_any 10001 70 _ (enough c f d.toNat aim) w1 (by omega) cb70 ?_) ?_
        · intro x w' hx0 hx1 hbw hsz
          exact load_needed1 x f d c aim _ _ _ _ w' ((hs1.blk (id := 4) rfl).at hbw hsz) ((hs1.blk (id := 6) rfl).at hbw hsz) ((hs1.blk (id := 5) rfl).at hbw hsz) ((hs1.blk (id := 7) rfl).at hbw hsz) (by omega) (inB_iff.1 hS.1) hdd hcc
        rintro e w2 ⟨i, rfl, hi1, hi2, hi3, hb2⟩
        have hle : leastP (enough c f d.toNat aim) 10001 = i := leastP_mono (fun a b _ hab _ ha => enough_mono hcc hab ha) (by omega) hi2 (by rcases hi3 with h | h; exact .inl (by omega); exact .inr h)
        refine After.below rfl hb1 hs1 hB1 hb2 ?_
        clear hb2 hB1 hs1 hb1 w2 w1
        refine ol_r (r_assign rfl) rfl ?_
        refine ol_nil (to_k0 (fun _ _ h => h) (hK10 _ _ ?_))
        clear hK10
        refine wp_seq' fun K11 hK11 => ?_
        refine wp_seq' fun K12 hK12 => ?_
        refine wp_reg ?_
        refine ol_r (r_move rfl) rfl ?_
        refine ol_r (r_gtr rfl rfl) rfl ?_
        refine ol_nil (to_k0 (fun _ _ h => h) (hK12 _ _ ?_))
        clear hK12
        first | refine wp_condD rfl (fun hc34 => ?_) (fun hc34 => ?_) | refine wp_condN rfl (fun hc34 => ?_) (fun hc34 => ?_) | refine wp_condNB rfl (fun hc34 => ?_) (fun hc34 => ?_) | refine wp_cond' rfl (fun hc34 => ?_) (fun hc34 => ?_)
        · refine wp_seq' fun K13 hK13 => ?_
          refine wp_reg ?_
          refine ol_r (r_assign rfl) rfl ?_
          refine ol_r (r_assign rfl) rfl ?_
          refine ol_r (r_assign rfl) rfl ?_
          refine ol_nil (to_k0 (fun _ _ h => h) (hK13 _ _ ?_))
          clear hK13
          refine hQ.ret (rvs3 (rv_t rfl) (rv_t rfl) (rv_t rfl)) (fun _ _ h => h) fun w hb hs hB => ?_
          have h2 : (inB d 0 5000 && inB aim 0 10000000) = true := by rw [show inB d 0 5000 = true by simpa using hs26, hc30]; rfl
          exact ⟨by rw [neededR_3 (by rw [hS.1, hS.2.2.1]; rfl) h2 (by omega)], hb⟩
        · refine wp_skip' (to_k0 (fun _ _ h => h) (hK11 _ _ ?_))
          clear hK11
          refine wp_seq' fun K14 hK14 => ?_
          refine wp_reg ?_
          refine ol_r (r_move rfl) rfl ?_
          refine ol_r (r_assign rfl) rfl ?_
          refine ol_r (r_assign rfl) rfl ?_
          refine ol_r (r_assign rfl) rfl ?_
          refine ol_nil (to_k0 (fun _ _ h => h) (hK14 _ _ ?_))
          clear hK14
          refine hQ.ret (rvs3 (rv_t rfl) (rv_t rfl) (rv_t rfl)) (fun _ _ h => h) fun w hb hs hB => ?_
          have h2 : (inB d 0 5000 && inB aim 0 10000000) = true := by rw [show inB d 0 5000 = true by simpa using hs26, hc30]; rfl
          exact ⟨by rw [neededR_4 (by rw [hS.1, hS.2.2.1]; rfl) h2 hle (by omega)], hb⟩

theorem ref_behind (f x c d : Int) (w : World) (hx : 0 ≤ x ∧ x ≤ 10000) (hf : 0 ≤ f ∧ f ≤ 10000000) (hd : 0 ≤ d ∧ d ≤ 5000) (hc : 1 ≤ c) :
    Calls Try.prog 71 #[.int .i64 f, .int .i64 x, .int .i64 c, .int .i64 d] w fun e w' => e = .returned (.int .i64 (behindM c f x d.toNat)) ∧ Below w.heap.size w w' := by
  refine enterQ (N := 18) (H := []) (B := w.heap.size) (args := [_, _, _, _]) Try.func71 rfl rfl rfl (Nat.le_refl _) (Sat.nil _ _) fun Q hQ => ?_
  refine wp_seq' fun K1 hK1 => ?_
  refine wp_reg ?_
  refine ol_r (r_assign rfl) rfl ?_
  refine ol_nil (to_k0 (fun _ _ h => h) (hK1 _ _ ?_))
  clear hK1
  refine wp_seq' fun K2 hK2 => ?_
  refine wp_seq' fun K3 hK3 => ?_
  refine wp_reg ?_
  refine ol_r (r_move rfl) rfl ?_
  refine ol_r (r_move rfl) rfl ?_
  refine ol_nil (to_k0 (fun _ _ h => h) (hK3 _ _ ?_))
  clear hK3
  refine wp_block' ?_
  apply wp_loopM (σ := Nat × Int) (fun s => (s.1 : Int) ≤ d ∧ s.2 = behindM c f x s.1) (fun s => [(10, .int .i64 s.1), (0, .int .i64 s.2)]) [(1, _), (2, _), (8, _), (9, _)] (fun s => []) [] (fun s => d.toNat - s.1) ((0, f))
  · try dsimp only
    exact ⟨by omega, rfl⟩
  · exact (sub_cons rfl (sub_cons rfl sub_nil))
  · exact (sub_cons rfl (sub_cons rfl (sub_cons rfl (sub_cons rfl sub_nil))))
  · exact subH_nil
  · exact subH_nil
  · rintro ⟨k, v⟩ ⟨hk, hv⟩
    dsimp only at hk hv ⊢
    intro K4 hK4
    refine wp_seq' fun K5 hK5 => ?_
    refine wp_reg ?_
    refine ol_r (r_lss rfl rfl) rfl ?_
    refine ol_nil (to_k0 (fun _ _ h => h) (hK5 _ _ ?_))
    clear hK5
    refine wp_seq' fun K6 hK6 => ?_
    first | refine wp_condD rfl (fun hc11 => ?_) (fun hc11 => ?_) | refine wp_condN rfl (fun hc11 => ?_) (fun hc11 => ?_) | refine wp_condNB rfl (fun hc11 => ?_) (fun hc11 => ?_) | refine wp_cond' rfl (fun hc11 => ?_) (fun hc11 => ?_)
    · refine wp_skip' (to_k0 (fun _ _ h => h) (hK6 _ _ ?_))
      clear hK6
      refine wp_seq' fun K7 hK7 => ?_
      refine wp_block' ?_
      refine wp_reg ?_
      refine ol_r (r_move rfl) rfl ?_
      refine ol_r (r_move rfl) rfl ?_
      refine ol_r (r_move rfl) rfl ?_
      refine ol_call rfl rfl cb63 rfl (fun w1 hb1 hs1 hB1 => Calls.mono (ref_step _ _ _ (by rw [hv]; exact behindM_bd hc hf hx k) hx hc _) ?_)
      rintro e w2 ⟨rfl, hb2⟩
      refine After.below rfl hb1 hs1 hB1 hb2 ?_
      clear hb2 hB1 hs1 hb1 w2 w1
      refine ol_r (r_assign rfl) rfl ?_
      refine ol_nil (to_k0 (fun _ _ h => h) (hK7 _ _ ?_))
      clear hK7
      refine wp_reg ?_
      refine ol_r (r_add rfl rfl (by omega)) rfl ?_
      refine ol_r (r_move rfl) rfl ?_
      refine ol_nil (to_k0 (fun _ _ h => h) (hK4 ((k + 1, _)) _ _ ?_ ?_ (sub_cons rfl (sub_cons rfl sub_nil)) (sub_cons rfl (sub_cons rfl (sub_cons rfl (sub_cons rfl sub_nil)))) (by exact subH_nil) subH_nil))
      · try dsimp only
        exact ⟨by omega, by rw [behindM_succ, ← hv]; rfl⟩
      · try dsimp only
        omega
    · refine wp_exit' (to_k0 (fun _ _ h => h) (hK2 _ _ ?_))
      clear hK2
      refine wp_seq' fun K8 hK8 => ?_
      refine wp_reg ?_
      refine ol_r (r_move rfl) rfl ?_
      refine ol_r (r_assign rfl) rfl ?_
      refine ol_nil (to_k0 (fun _ _ h => h) (hK8 _ _ ?_))
      clear hK8
      refine hQ.ret (rvs1 (rv_t rfl)) (fun _ _ h => h) fun w hb hs hB => ?_
      have : d.toNat = k := by omega
      exact ⟨by rw [this, hv], hb⟩

theorem ref_Needed (f c d aim : Int) (w : World) : Calls Try.prog 22 #[.int .i64 f, .int .i64 c, .int .i64 d, .int .i64 aim] w fun e w' =>
    e = .returned (.tuple #[.int .i64 (neededR f c d aim).1, .bool (neededR f c d aim).2.1, .int .i64 (neededR f c d aim).2.2]) ∧ Below w.heap.size w w' := by
  refine enterQ (N := 51) (H := []) (B := w.heap.size) (args := [_, _, _, _]) Try.func22 rfl rfl rfl (Nat.le_refl _) (Sat.nil _ _) fun Q hQ => ?_
  refine wp_seq' fun K1 hK1 => ?_
  refine wp_reg ?_
  refine ol_r (r_assign rfl) rfl ?_
  refine ol_r (r_assign rfl) rfl ?_
  refine ol_r (r_assign rfl) rfl ?_
  refine ol_nil (to_k0 (fun _ _ h => h) (hK1 _ _ ?_))
  clear hK1
  refine wp_seq' fun K2 hK2 => ?_
  refine wp_seq' fun K3 hK3 => ?_
  refine wp_reg ?_
  refine ol_r (r_move rfl) rfl ?_
  refine ol_r (r_move rfl) rfl ?_
  refine ol_call rfl rfl cb61 rfl (fun w1 hb1 hs1 hB1 => Calls.mono (ref_fault _ _ _) ?_)
  rintro e w2 ⟨rfl, hb2⟩
  refine After.below rfl hb1 hs1 hB1 hb2 ?_
  clear hb2 hB1 hs1 hb1 w2 w1
  refine ol_r (r_assign rfl) rfl ?_
  refine ol_nil (to_k0 (fun _ _ h => h) (hK3 _ _ ?_))
  clear hK3
  refine wp_seq' fun K4 hK4 => ?_
  refine wp_reg ?_
  refine ol_r (r_move rfl) rfl ?_
  refine ol_r (r_neq rfl rfl) rfl ?_
  refine ol_nil (to_k0 (fun _ _ h => h) (hK4 _ _ ?_))
  clear hK4
  first | refine wp_condD rfl (fun hc19 => ?_) (fun hc19 => ?_) | refine wp_condN rfl (fun hc19 => ?_) (fun hc19 => ?_) | refine wp_condNB rfl (fun hc19 => ?_) (fun hc19 => ?_) | refine wp_cond' rfl (fun hc19 => ?_) (fun hc19 => ?_)
  · refine wp_seq' fun K5 hK5 => ?_
    refine wp_reg ?_
    refine ol_r (r_move rfl) rfl ?_
    refine ol_r (r_assign rfl) rfl ?_
    refine ol_r (r_assign rfl) rfl ?_
    refine ol_r (r_assign rfl) rfl ?_
    refine ol_nil (to_k0 (fun _ _ h => h) (hK5 _ _ ?_))
    clear hK5
    refine hQ.ret (rvs3 (rv_t rfl) (rv_t rfl) (rv_t rfl)) (fun _ _ h => h) fun w hb hs hB => ?_
    exact ⟨by rw [neededR_1 (faultR_no hc19).2, (faultR_no hc19).1], hb⟩
  · refine wp_skip' (to_k0 (fun _ _ h => h) (hK2 _ _ ?_))
    clear hK2
    refine wp_seq' fun K6 hK6 => ?_
    refine wp_seq' fun K7 hK7 => ?_
    refine wp_reg ?_
    refine ol_r (r_move rfl) rfl ?_
    refine ol_call rfl rfl cb62 rfl (fun w1 hb1 hs1 hB1 => Calls.mono (ref_outside _ _ _ _) ?_)
    rintro e w2 ⟨rfl, hb2⟩
    refine After.below rfl hb1 hs1 hB1 hb2 ?_
    clear hb2 hB1 hs1 hb1 w2 w1
    refine ol_r (r_move rfl) rfl ?_
    refine ol_split (d := 23) rfl (fun hs23 => ?_) (fun hs23 => ?_)
    · have phs23 := hs23; try simp only [decide_eq_true_eq, decide_eq_false_iff_not, Bool.not_eq_true', Bool.not_eq_false', Bool.not_true, Bool.not_false] at phs23
      refine ol_s rfl rfl hs23 rfl ?_
      refine ol_s rfl rfl hs23 rfl ?_
      refine ol_r (r_pickT rfl hs23 rfl) rfl ?_
      refine ol_nil (to_k0 (fun _ _ h => h) (hK7 _ _ ?_))
      clear hK7
      refine wp_condT rfl ?_
      refine wp_seq' fun K8 hK8 => ?_
      refine wp_reg ?_
      refine ol_r (r_assign rfl) rfl ?_
      refine ol_r (r_assign rfl) rfl ?_
      refine ol_r (r_assign rfl) rfl ?_
      refine ol_nil (to_k0 (fun _ _ h => h) (hK8 _ _ ?_))
      clear hK8
      refine hQ.ret (rvs3 (rv_t rfl) (rv_t rfl) (rv_t rfl)) (fun _ _ h => h) fun w hb hs hB => ?_
      have hS := faultR_ok hc19
      exact ⟨by rw [neededR_2 (by rw [hS.1, hS.2]; rfl) (by rw [show inB d 0 5000 = false by simpa using hs23]; rfl)], hb⟩
    · have phs23 := hs23; try simp only [decide_eq_true_eq, decide_eq_false_iff_not, Bool.not_eq_true', Bool.not_eq_false', Bool.not_true, Bool.not_false] at phs23
      refine ol_g rfl rfl hs23 ?_
      refine ol_r (r_move rfl) rfl ?_
      refine ol_g rfl rfl hs23 ?_
      refine ol_call rfl rfl cb62 rfl (fun w1 hb1 hs1 hB1 => Calls.mono (ref_outside _ _ _ _) ?_)
      rintro e w2 ⟨rfl, hb2⟩
      refine After.below rfl hb1 hs1 hB1 hb2 ?_
      clear hb2 hB1 hs1 hb1 w2 w1
      refine ol_r (r_pickF rfl hs23 rfl) rfl ?_
      refine ol_nil (to_k0 (fun _ _ h => h) (hK7 _ _ ?_))
      clear hK7
      first | refine wp_condD rfl (fun hc26 => ?_) (fun hc26 => ?_) | refine wp_condN rfl (fun hc26 => ?_) (fun hc26 => ?_) | refine wp_condNB rfl (fun hc26 => ?_) (fun hc26 => ?_) | refine wp_cond' rfl (fun hc26 => ?_) (fun hc26 => ?_)
      · refine wp_seq' fun K9 hK9 => ?_
        refine wp_reg ?_
        refine ol_r (r_assign rfl) rfl ?_
        refine ol_r (r_assign rfl) rfl ?_
        refine ol_r (r_assign rfl) rfl ?_
        refine ol_nil (to_k0 (fun _ _ h => h) (hK9 _ _ ?_))
        clear hK9
        refine hQ.ret (rvs3 (rv_t rfl) (rv_t rfl) (rv_t rfl)) (fun _ _ h => h) fun w hb hs hB => ?_
        have hS := faultR_ok hc19
        exact ⟨by rw [neededR_2 (by rw [hS.1, hS.2]; rfl) (by rw [show inB aim 0 10000000 = false by simpa using hc26, Bool.and_false])], hb⟩
      · refine wp_skip' (to_k0 (fun _ _ h => h) (hK6 _ _ ?_))
        clear hK6
        refine wp_seq' fun K10 hK10 => ?_
        refine wp_seq' fun K11 hK11 => ?_
        refine wp_reg ?_
        refine ol_r (r_move rfl) rfl ?_
        refine ol_r (r_move rfl) rfl ?_
        refine ol_r (r_move rfl) rfl ?_
        have hS := faultR_ok hc19
        have h2 : (inB d 0 5000 && inB aim 0 10000000) = true := by rw [show inB d 0 5000 = true by simpa using hs23, hc26]; rfl
        have hdd := inB_iff.1 (show inB d 0 5000 = true by simpa using hs23)
        have h1 : (inB f 0 10000000 && inB c 1 1000) = true := by rw [hS.1, hS.2]; rfl
        refine ol_call rfl rfl cb71 rfl (fun w1 hb1 hs1 hB1 => Calls.mono (ref_behind _ _ _ _ _ (by omega) (inB_iff.1 hS.1) hdd (inB_iff.1 hS.2).1) ?_)
        rintro e w2 ⟨rfl, hb2⟩
        refine After.below rfl hb1 hs1 hB1 hb2 ?_
        clear hb2 hB1 hs1 hb1 w2 w1
        refine ol_r (r_move rfl) rfl ?_
        refine ol_r (r_lss rfl rfl) rfl ?_
        refine ol_nil (to_k0 (fun _ _ h => h) (hK11 _ _ ?_))
        clear hK11
        first | refine wp_condD rfl (fun hc32 => ?_) (fun hc32 => ?_) | refine wp_condN rfl (fun hc32 => ?_) (fun hc32 => ?_) | refine wp_condNB rfl (fun hc32 => ?_) (fun hc32 => ?_) | refine wp_cond' rfl (fun hc32 => ?_) (fun hc32 => ?_)
        · refine wp_seq' fun K12 hK12 => ?_
          refine wp_reg ?_
          refine ol_r (r_assign rfl) rfl ?_
          refine ol_r (r_assign rfl) rfl ?_
          refine ol_r (r_assign rfl) rfl ?_
          refine ol_nil (to_k0 (fun _ _ h => h) (hK12 _ _ ?_))
          clear hK12
          refine hQ.ret (rvs3 (rv_t rfl) (rv_t rfl) (rv_t rfl)) (fun _ _ h => h) fun w hb hs hB => ?_
          refine ⟨?_, hb⟩
          rw [neededR_3 h1 h2 (leastP_mono (fun a b _ hab _ ha => enough_mono (inB_iff.1 hS.2).1 hab ha) (Nat.le_refl _) (.inr (by unfold enough; exact decide_eq_false (by simpa using hc32))) (.inl rfl))]
        · refine wp_skip' (to_k0 (fun _ _ h => h) (hK10 _ _ ?_))
          clear hK10
          refine wp_seq' fun K13 hK13 => ?_
          refine wp_reg ?_
          refine ol_r (r_assign rfl) rfl ?_
          refine ol_r (r_assign rfl) rfl ?_
          refine ol_nil (to_k0 (fun _ _ h => h) (hK13 _ _ ?_))
          clear hK13
          refine wp_seq' fun K14 hK14 => ?_
          refine wp_block' ?_
          apply wp_loopM (σ := Int × Int) (fun s => 0 ≤ s.1 ∧ s.1 ≤ s.2 ∧ s.2 ≤ 10000 ∧ (s.1 = 0 ∨ enough c f d.toNat aim (s.1 - 1) = false) ∧ enough c f d.toNat aim s.2 = true) (fun s => [(12, .int .i64 s.1), (13, .int .i64 s.2)]) [(0, _), (1, _), (2, _), (3, _), (8, _), (9, _), (10, _)] (fun s => []) [] (fun s => (s.2 - s.1).toNat) ((0, 10000))
          · try dsimp only
            exact ⟨by omega, by omega, by omega, .inl rfl, by unfold enough; rw [decide_eq_true (by omega)]⟩
          · exact (sub_cons rfl (sub_cons rfl sub_nil))
          · exact (sub_cons rfl (sub_cons rfl (sub_cons rfl (sub_cons rfl (sub_cons rfl (sub_cons rfl (sub_cons rfl sub_nil)))))))
          · exact subH_nil
          · exact subH_nil
          · rintro ⟨i, j⟩ ⟨q1, q2, q3, q4, q5⟩
            dsimp only at q1 q2 q3 q4 q5 ⊢
            intro K15 hK15
            refine wp_seq' fun K16 hK16 => ?_
            refine wp_seq' fun K17 hK17 => ?_
            refine wp_reg ?_
            refine ol_r (r_move rfl) rfl ?_
            refine ol_r (r_move rfl) rfl ?_
            refine ol_r (r_lss rfl rfl) rfl ?_
            refine ol_nil (to_k0 (fun _ _ h => h) (hK17 _ _ ?_))
            clear hK17
            first | refine wp_condD rfl (fun hc35 => ?_) (fun hc35 => ?_) | refine wp_condN rfl (fun hc35 => ?_) (fun hc35 => ?_) | refine wp_condNB rfl (fun hc35 => ?_) (fun hc35 => ?_) | refine wp_cond' rfl (fun hc35 => ?_) (fun hc35 => ?_)
            · refine wp_skip' (to_k0 (fun _ _ h => h) (hK16 _ _ ?_))
              clear hK16
              refine wp_block' ?_
              refine wp_seq' fun K18 hK18 => ?_
              refine wp_reg ?_
              refine ol_r (r_move rfl) rfl ?_
              refine ol_r (r_move rfl) rfl ?_
              refine ol_r (r_add rfl rfl (by omega)) rfl ?_
              first | refine ol_r (r_quo rfl rfl (by omega)) rfl ?_ | refine ol_r (r_tquo rfl rfl (by omega)) rfl ?_
              refine ol_r (r_assign rfl) rfl ?_
              refine ol_nil (to_k0 (fun _ _ h => h) (hK18 _ _ ?_))
              clear hK18
              refine wp_seq' fun K19 hK19 => ?_
              refine wp_reg ?_
              refine ol_r (r_move rfl) rfl ?_
              refine ol_r (r_move rfl) rfl ?_
              refine ol_r (r_move rfl) rfl ?_
              refine ol_r (r_move rfl) rfl ?_
              refine ol_call rfl rfl cb71 rfl (fun w1 hb1 hs1 hB1 => Calls.mono (ref_behind _ _ _ _ _ (by omega) (inB_iff.1 hS.1) hdd (inB_iff.1 hS.2).1) ?_)
              rintro e w2 ⟨rfl, hb2⟩
              refine After.below rfl hb1 hs1 hB1 hb2 ?_
              clear hb2 hB1 hs1 hb1 w2 w1
              refine ol_r (r_move rfl) rfl ?_
              refine ol_r (r_geq rfl rfl) rfl ?_
              refine ol_nil (to_k0 (fun _ _ h => h) (hK19 _ _ ?_))
              clear hK19
              first | refine wp_condD rfl (fun hc46 => ?_) (fun hc46 => ?_) | refine wp_condN rfl (fun hc46 => ?_) (fun hc46 => ?_) | refine wp_condNB rfl (fun hc46 => ?_) (fun hc46 => ?_) | refine wp_cond' rfl (fun hc46 => ?_) (fun hc46 => ?_)
              · refine wp_reg ?_
                refine ol_r (r_move rfl) rfl ?_
                refine ol_r (r_assign rfl) rfl ?_
                refine ol_nil (to_k0 (fun _ _ h => h) (hK15 ((_, _)) _ _ ?_ ?_ (sub_cons rfl (sub_cons rfl sub_nil)) (sub_cons rfl (sub_cons rfl (sub_cons rfl (sub_cons rfl (sub_cons rfl (sub_cons rfl (sub_cons rfl sub_nil))))))) (by exact subH_nil) subH_nil))
                · try dsimp only
                  first
                    | exact ⟨by omega, by omega, by omega, q4, by unfold enough; rw [decide_eq_true hc46]⟩
                    | exact ⟨by omega, by omega, by omega, .inr (by rw [Int.add_sub_cancel]; unfold enough; rw [decide_eq_false hc46]), q5⟩
                · try dsimp only
                  omega
              · refine wp_reg ?_
                refine ol_r (r_move rfl) rfl ?_
                refine ol_r (r_add rfl rfl (by omega)) rfl ?_
                refine ol_r (r_assign rfl) rfl ?_
                refine ol_nil (to_k0 (fun _ _ h => h) (hK15 ((_, _)) _ _ ?_ ?_ (sub_cons rfl (sub_cons rfl sub_nil)) (sub_cons rfl (sub_cons rfl (sub_cons rfl (sub_cons rfl (sub_cons rfl (sub_cons rfl (sub_cons rfl sub_nil))))))) (by exact subH_nil) subH_nil))
                · try dsimp only
                  first
                    | exact ⟨by omega, by omega, by omega, q4, by unfold enough; rw [decide_eq_true hc46]⟩
                    | exact ⟨by omega, by omega, by omega, .inr (by rw [Int.add_sub_cancel]; unfold enough; rw [decide_eq_false hc46]), q5⟩
                · try dsimp only
                  omega
            · refine wp_exit' (to_k0 (fun _ _ h => h) (hK14 _ _ ?_))
              clear hK14
              refine wp_seq' fun K20 hK20 => ?_
              refine wp_reg ?_
              refine ol_r (r_move rfl) rfl ?_
              refine ol_r (r_assign rfl) rfl ?_
              refine ol_r (r_assign rfl) rfl ?_
              refine ol_r (r_assign rfl) rfl ?_
              refine ol_nil (to_k0 (fun _ _ h => h) (hK20 _ _ ?_))
              clear hK20
              refine hQ.ret (rvs3 (rv_t rfl) (rv_t rfl) (rv_t rfl)) (fun _ _ h => h) fun w hb hs hB => ?_
              have h6 : ((i.toNat : Nat) : Int) = i := by omega
              have h7 : leastP (enough c f d.toNat aim) 10001 = i.toNat := leastP_mono (fun a b _ hab _ ha => enough_mono (inB_iff.1 hS.2).1 hab ha) (by omega)
                (by rcases q4 with h | h; exact .inl (by omega); exact .inr (by rw [h6]; exact h)) (.inr (by rw [h6, show i = j by omega]; exact q5))
              exact ⟨by rw [neededR_4 h1 h2 h7 (by omega), h6], hb⟩

theorem law_needed1 (x f d c : Int) (b1 b2 b3 : Nat) (w : World) (h1 : Blk w.heap.size w b1 [(0, .int .i64 f)]) (h2 : Blk w.heap.size w b2 [(0, .int .i64 d)]) (h3 : Blk w.heap.size w b3 [(0, .int .i64 c)])
    (hx : 0 ≤ x ∧ x ≤ 10000) (hf : 0 ≤ f ∧ f ≤ 10000000) (hd : 0 ≤ d ∧ d ≤ 5000) (hc : 1 ≤ c ∧ c ≤ 1000) :
    Calls Try.prog 23 #[.int .i64 x, .pointer (some ⟨b1, 0, none⟩), .pointer (some ⟨b2, 0, none⟩), .pointer (some ⟨b3, 0, none⟩)] w fun e w' => e = .returned (.int .i64 (behindM c f x d.toNat)) ∧ Below w.heap.size w w' := by
  refine enterQ (N := 20) (H := []) (B := w.heap.size) (args := [_, _, _, _]) Try.func23 rfl rfl rfl (Nat.le_refl _) (Sat.nil _ _) fun Q hQ => ?_
  refine wp_seq' fun K1 hK1 => ?_
  refine wp_reg ?_
  refine ol_r (r_assign rfl) rfl ?_
  refine ol_nil (to_k0 (fun _ _ h => h) (hK1 _ _ ?_))
  clear hK1
  refine wp_seq' fun K2 hK2 => ?_
  refine wp_reg ?_
  refine ol_r (r_ldw rfl (fun w1 hb1 hs1 hB1 => Blk.loads (o := 0) h1 hb1 sc3 rfl)) rfl ?_
  refine ol_r (r_assign rfl) rfl ?_
  refine ol_nil (to_k0 (fun _ _ h => h) (hK2 _ _ ?_))
  clear hK2
  refine wp_seq' fun K3 hK3 => ?_
  refine wp_seq' fun K4 hK4 => ?_
  refine wp_reg ?_
  refine ol_r (r_ldw rfl (fun w1 hb1 hs1 hB1 => Blk.loads (o := 0) h2 hb1 sc3 rfl)) rfl ?_
  refine ol_r (r_move rfl) rfl ?_
  refine ol_nil (to_k0 (fun _ _ h => h) (hK4 _ _ ?_))
  clear hK4
  refine wp_block' ?_
  apply wp_loopM (σ := Nat × Int) (fun s => (s.1 : Int) ≤ d ∧ s.2 = behindM c f x s.1) (fun s => [(9, .int .i64 s.1), (6, .int .i64 s.2)]) [(0, _), (3, _), (5, _), (8, _)] (fun s => []) [] (fun s => d.toNat - s.1) ((0, f))
  · try dsimp only
    exact ⟨by omega, rfl⟩
  · exact (sub_cons rfl (sub_cons rfl sub_nil))
  · exact (sub_cons rfl (sub_cons rfl (sub_cons rfl (sub_cons rfl sub_nil))))
  · exact subH_nil
  · exact subH_nil
  · rintro ⟨k, v⟩ ⟨hk, hv⟩
    dsimp only at hk hv ⊢
    intro K5 hK5
    refine wp_seq' fun K6 hK6 => ?_
    refine wp_reg ?_
    refine ol_r (r_lss rfl rfl) rfl ?_
    refine ol_nil (to_k0 (fun _ _ h => h) (hK6 _ _ ?_))
    clear hK6
    refine wp_seq' fun K7 hK7 => ?_
    first | refine wp_condD rfl (fun hc10 => ?_) (fun hc10 => ?_) | refine wp_condN rfl (fun hc10 => ?_) (fun hc10 => ?_) | refine wp_condNB rfl (fun hc10 => ?_) (fun hc10 => ?_) | refine wp_cond' rfl (fun hc10 => ?_) (fun hc10 => ?_)
    · refine wp_skip' (to_k0 (fun _ _ h => h) (hK7 _ _ ?_))
      clear hK7
      refine wp_seq' fun K8 hK8 => ?_
      refine wp_block' ?_
      refine wp_reg ?_
      refine ol_r (r_move rfl) rfl ?_
      refine ol_r (r_move rfl) rfl ?_
      refine ol_r (r_ldw rfl (fun w1 hb1 hs1 hB1 => Blk.loads (o := 0) h3 hb1 sc3 rfl)) rfl ?_
      refine ol_call rfl rfl cb19 rfl (fun w1 hb1 hs1 hB1 => Calls.mono (ref_Step _ _ _ _) ?_)
      rintro e w2 ⟨rfl, hb2⟩
      refine After.below rfl hb1 hs1 hB1 hb2 ?_
      clear hb2 hB1 hs1 hb1 w2 w1
      refine ol_r (r_move rfl) rfl ?_
      refine ol_r (r_extract rfl rfl) rfl ?_
      refine ol_r (r_extract rfl rfl) rfl ?_
      refine ol_r (r_assign rfl) rfl ?_
      refine ol_nil (to_k0 (fun _ _ h => h) (hK8 _ _ ?_))
      clear hK8
      refine wp_reg ?_
      refine ol_r (r_add rfl rfl (by omega)) rfl ?_
      refine ol_r (r_move rfl) rfl ?_
      refine ol_nil (to_k0 (fun _ _ h => h) (hK5 ((k + 1, _)) _ _ ?_ ?_ (sub_cons rfl (sub_cons rfl sub_nil)) (sub_cons rfl (sub_cons rfl (sub_cons rfl (sub_cons rfl sub_nil)))) (by exact subH_nil) subH_nil))
      · try dsimp only
        have hbd := behindM_bd hc.1 hf hx k
        have hst : stepR v x c = (stepM c v x, 0) := by unfold stepR; rw [if_pos (by rw [inB_iff.2 (by rw [hv]; exact hbd), inB_iff.2 hx, inB_iff.2 hc]; rfl)]
        exact ⟨by omega, by rw [behindM_succ, ← hv, hst]⟩
      · try dsimp only
        omega
    · refine wp_exit' (to_k0 (fun _ _ h => h) (hK3 _ _ ?_))
      clear hK3
      refine wp_seq' fun K9 hK9 => ?_
      refine wp_reg ?_
      refine ol_r (r_move rfl) rfl ?_
      refine ol_r (r_assign rfl) rfl ?_
      refine ol_nil (to_k0 (fun _ _ h => h) (hK9 _ _ ?_))
      clear hK9
      refine hQ.ret (rvs1 (rv_t rfl)) (fun _ _ h => h) fun w hb hs hB => ?_
      have : d.toNat = k := by omega
      exact ⟨by rw [this, hv], hb⟩

theorem law_needed (f c d aim : Int) (w : World) :
    Calls Try.prog 5 #[.int .i64 f, .int .i64 c, .int .i64 d, .int .i64 aim] w fun e w' => e = .returned (.bool true) ∧ Below w.heap.size w w' := by
  refine enterQ (N := 75) (H := []) (B := w.heap.size) (args := [_, _, _, _]) Try.func5 rfl rfl rfl (Nat.le_refl _) (Sat.nil _ _) fun Q hQ => ?_
  refine wp_seq' fun K1 hK1 => ?_
  refine wp_reg ?_
  refine ol_box 4 rfl rfl rfl fun b4 => ?_
  refine ol_box 5 rfl rfl rfl fun b5 => ?_
  refine ol_box 6 rfl rfl rfl fun b6 => ?_
  refine ol_r (r_assign rfl) rfl ?_
  refine ol_nil (to_k0 (fun _ _ h => h) (hK1 _ _ ?_))
  clear hK1
  refine wp_seq' fun K2 hK2 => ?_
  refine wp_reg ?_
  refine ol_r (r_ld (id := 4) rfl rfl rfl sc3) rfl ?_
  refine ol_r (r_ld (id := 5) rfl rfl rfl sc3) rfl ?_
  refine ol_r (r_ld (id := 6) rfl rfl rfl sc3) rfl ?_
  refine ol_r (r_move rfl) rfl ?_
  refine ol_call rfl rfl cb21 rfl (fun w1 hb1 hs1 hB1 => Calls.mono (load_Needed _ _ _ _ _) ?_)
  rintro e w2 ⟨rfl, hb2⟩
  refine After.below rfl hb1 hs1 hB1 hb2 ?_
  clear hb2 hB1 hs1 hb1 w2 w1
  refine ol_r (r_move rfl) rfl ?_
  refine ol_r (r_extract rfl rfl) rfl ?_
  refine ol_r (r_extract rfl rfl) rfl ?_
  refine ol_r (r_extract rfl rfl) rfl ?_
  refine ol_r (r_assign rfl) rfl ?_
  refine ol_r (r_assign rfl) rfl ?_
  refine ol_r (r_assign rfl) rfl ?_
  refine ol_nil (to_k0 (fun _ _ h => h) (hK2 _ _ ?_))
  clear hK2
  refine wp_seq' fun K3 hK3 => ?_
  refine wp_reg ?_
  refine ol_r (r_ld (id := 4) rfl rfl rfl sc3) rfl ?_
  refine ol_r (r_ld (id := 5) rfl rfl rfl sc3) rfl ?_
  refine ol_r (r_ld (id := 6) rfl rfl rfl sc3) rfl ?_
  refine ol_r (r_move rfl) rfl ?_
  refine ol_call rfl rfl cb22 rfl (fun w1 hb1 hs1 hB1 => Calls.mono (ref_Needed _ _ _ _ _) ?_)
  rintro e w2 ⟨rfl, hb2⟩
  refine After.below rfl hb1 hs1 hB1 hb2 ?_
  clear hb2 hB1 hs1 hb1 w2 w1
  refine ol_r (r_move rfl) rfl ?_
  refine ol_r (r_extract rfl rfl) rfl ?_
  refine ol_r (r_extract rfl rfl) rfl ?_
  refine ol_r (r_extract rfl rfl) rfl ?_
  refine ol_r (r_assign rfl) rfl ?_
  refine ol_r (r_assign rfl) rfl ?_
  refine ol_r (r_assign rfl) rfl ?_
  refine ol_nil (to_k0 (fun _ _ h => h) (hK3 _ _ ?_))
  clear hK3
  refine wp_seq' fun K4 hK4 => ?_
  refine wp_seq' fun K5 hK5 => ?_
  refine wp_reg ?_
  refine ol_r (r_move rfl) rfl ?_
  refine ol_r (r_move rfl) rfl ?_
  refine ol_r (r_neq rfl rfl) rfl ?_
  refine ol_r (r_move rfl) rfl ?_
  refine ol_split (d := 37) rfl (fun hs37 => ?_) (fun hs37 => ?_)
  · have phs37 := hs37; try simp only [decide_eq_true_eq, decide_eq_false_iff_not, Bool.not_eq_true', Bool.not_eq_false', Bool.not_true, Bool.not_false] at phs37
    refine ol_s rfl rfl hs37 rfl ?_
    refine ol_s rfl rfl hs37 rfl ?_
    refine ol_s rfl rfl hs37 rfl ?_
    refine ol_r (r_pickT rfl hs37 rfl) rfl ?_
    refine ol_r (r_move rfl) rfl ?_
    refine ol_s rfl rfl rfl rfl ?_
    refine ol_s rfl rfl rfl rfl ?_
    refine ol_s rfl rfl rfl rfl ?_
    refine ol_r (r_pickT rfl rfl rfl) rfl ?_
    refine ol_nil (to_k0 (fun _ _ h => h) (hK5 _ _ ?_))
    clear hK5
    refine wp_condT rfl ?_
    refine wp_seq' fun K6 hK6 => ?_
    refine wp_reg ?_
    refine ol_r (r_assign rfl) rfl ?_
    refine ol_nil (to_k0 (fun _ _ h => h) (hK6 _ _ ?_))
    clear hK6
    refine hQ.ret (rvs1 (rv_t rfl)) (fun _ _ h => h) fun w hb hs hB => ?_
    first
      | exact ⟨rfl, hb⟩
      | (exfalso; exact phs37 rfl)
      | (exfalso; simp at phs42; done)
      | (exfalso; exact hc46 rfl)
      | (exfalso; simp at hc46; done)
      | (exfalso; omega)
      | (exfalso; rcases hok.2.2.2.2 with h | h <;> omega)
  · have phs37 := hs37; try simp only [decide_eq_true_eq, decide_eq_false_iff_not, Bool.not_eq_true', Bool.not_eq_false', Bool.not_true, Bool.not_false] at phs37
    refine ol_g rfl rfl hs37 ?_
    refine ol_r (r_move rfl) rfl ?_
    refine ol_g rfl rfl hs37 ?_
    refine ol_r (r_move rfl) rfl ?_
    refine ol_g rfl rfl hs37 ?_
    refine ol_r (r_bneq rfl rfl (by kernel_rfl)) rfl ?_
    refine ol_r (r_pickF rfl hs37 rfl) rfl ?_
    refine ol_r (r_move rfl) rfl ?_
    refine ol_split (d := 42) rfl (fun hs42 => ?_) (fun hs42 => ?_)
    · have phs42 := hs42; try simp only [decide_eq_true_eq, decide_eq_false_iff_not, Bool.not_eq_true', Bool.not_eq_false', Bool.not_true, Bool.not_false] at phs42
      refine ol_s rfl rfl hs42 rfl ?_
      refine ol_s rfl rfl hs42 rfl ?_
      refine ol_s rfl rfl hs42 rfl ?_
      refine ol_r (r_pickT rfl hs42 rfl) rfl ?_
      refine ol_nil (to_k0 (fun _ _ h => h) (hK5 _ _ ?_))
      clear hK5
      refine wp_condT rfl ?_
      refine wp_seq' fun K7 hK7 => ?_
      refine wp_reg ?_
      refine ol_r (r_assign rfl) rfl ?_
      refine ol_nil (to_k0 (fun _ _ h => h) (hK7 _ _ ?_))
      clear hK7
      refine hQ.ret (rvs1 (rv_t rfl)) (fun _ _ h => h) fun w hb hs hB => ?_
      first
        | exact ⟨rfl, hb⟩
        | (exfalso; exact phs37 rfl)
        | (exfalso; simp at phs42; done)
        | (exfalso; exact hc46 rfl)
        | (exfalso; simp at hc46; done)
        | (exfalso; omega)
        | (exfalso; rcases hok.2.2.2.2 with h | h <;> omega)
    · have phs42 := hs42; try simp only [decide_eq_true_eq, decide_eq_false_iff_not, Bool.not_eq_true', Bool.not_eq_false', Bool.not_true, Bool.not_false] at phs42
      refine ol_g rfl rfl hs42 ?_
      refine ol_r (r_move rfl) rfl ?_
      refine ol_g rfl rfl hs42 ?_
      refine ol_r (r_move rfl) rfl ?_
      refine ol_g rfl rfl hs42 ?_
      refine ol_r (r_neq rfl rfl) rfl ?_
      refine ol_r (r_pickF rfl hs42 rfl) rfl ?_
      refine ol_nil (to_k0 (fun _ _ h => h) (hK5 _ _ ?_))
      clear hK5
      first | refine wp_condD rfl (fun hc46 => ?_) (fun hc46 => ?_) | refine wp_condN rfl (fun hc46 => ?_) (fun hc46 => ?_) | refine wp_condNB rfl (fun hc46 => ?_) (fun hc46 => ?_) | refine wp_cond' rfl (fun hc46 => ?_) (fun hc46 => ?_)
      · refine wp_seq' fun K8 hK8 => ?_
        refine wp_reg ?_
        refine ol_r (r_assign rfl) rfl ?_
        refine ol_nil (to_k0 (fun _ _ h => h) (hK8 _ _ ?_))
        clear hK8
        refine hQ.ret (rvs1 (rv_t rfl)) (fun _ _ h => h) fun w hb hs hB => ?_
        first
          | exact ⟨rfl, hb⟩
          | (exfalso; exact phs37 rfl)
          | (exfalso; simp at phs42; done)
          | (exfalso; exact hc46 rfl)
          | (exfalso; simp at hc46; done)
          | (exfalso; omega)
          | (exfalso; rcases hok.2.2.2.2 with h | h <;> omega)
      · refine wp_skip' (to_k0 (fun _ _ h => h) (hK4 _ _ ?_))
        clear hK4
        refine wp_seq' fun K9 hK9 => ?_
        refine wp_seq' fun K10 hK10 => ?_
        refine wp_reg ?_
        refine ol_r (r_move rfl) rfl ?_
        refine ol_r (r_neq rfl rfl) rfl ?_
        refine ol_r (r_move rfl) rfl ?_
        refine ol_split (d := 49) rfl (fun hs49 => ?_) (fun hs49 => ?_)
        · have phs49 := hs49; try simp only [decide_eq_true_eq, decide_eq_false_iff_not, Bool.not_eq_true', Bool.not_eq_false', Bool.not_true, Bool.not_false] at phs49
          refine ol_s rfl rfl hs49 rfl ?_
          refine ol_s rfl rfl hs49 rfl ?_
          refine ol_r (r_pickT rfl hs49 rfl) rfl ?_
          refine ol_nil (to_k0 (fun _ _ h => h) (hK10 _ _ ?_))
          clear hK10
          refine wp_condT rfl ?_
          refine wp_seq' fun K11 hK11 => ?_
          refine wp_reg ?_
          refine ol_call rfl rfl cb14 rfl (fun w1 hb1 hs1 hB1 => Calls.mono (load_told _) ?_)
          rintro e w2 ⟨rfl, hb2⟩
          refine After.below rfl hb1 hs1 hB1 hb2 ?_
          clear hb2 hB1 hs1 hb1 w2 w1
          refine ol_r (r_assign rfl) rfl ?_
          refine ol_nil (to_k0 (fun _ _ h => h) (hK11 _ _ ?_))
          clear hK11
          refine hQ.ret (rvs1 (rv_t rfl)) (fun _ _ h => h) fun w hb hs hB => ?_
          first
            | exact ⟨rfl, hb⟩
            | (exfalso; exact phs37 rfl)
            | (exfalso; simp at phs42; done)
            | (exfalso; exact hc46 rfl)
            | (exfalso; simp at hc46; done)
            | (exfalso; omega)
            | (exfalso; rcases hok.2.2.2.2 with h | h <;> omega)
        · have phs49 := hs49; try simp only [decide_eq_true_eq, decide_eq_false_iff_not, Bool.not_eq_true', Bool.not_eq_false', Bool.not_true, Bool.not_false] at phs49
          refine ol_g rfl rfl hs49 ?_
          refine ol_r (r_move rfl) rfl ?_
          refine ol_g rfl rfl hs49 ?_
          refine ol_r (r_not rfl) rfl ?_
          refine ol_r (r_pickF rfl hs49 rfl) rfl ?_
          refine ol_nil (to_k0 (fun _ _ h => h) (hK10 _ _ ?_))
          clear hK10
          first | refine wp_condD rfl (fun hc52 => ?_) (fun hc52 => ?_) | refine wp_condN rfl (fun hc52 => ?_) (fun hc52 => ?_) | refine wp_condNB rfl (fun hc52 => ?_) (fun hc52 => ?_) | refine wp_cond' rfl (fun hc52 => ?_) (fun hc52 => ?_)
          · refine wp_seq' fun K12 hK12 => ?_
            refine wp_reg ?_
            refine ol_call rfl rfl cb14 rfl (fun w1 hb1 hs1 hB1 => Calls.mono (load_told _) ?_)
            rintro e w2 ⟨rfl, hb2⟩
            refine After.below rfl hb1 hs1 hB1 hb2 ?_
            clear hb2 hB1 hs1 hb1 w2 w1
            refine ol_r (r_assign rfl) rfl ?_
            refine ol_nil (to_k0 (fun _ _ h => h) (hK12 _ _ ?_))
            clear hK12
            refine hQ.ret (rvs1 (rv_t rfl)) (fun _ _ h => h) fun w hb hs hB => ?_
            first
              | exact ⟨rfl, hb⟩
              | (exfalso; exact phs37 rfl)
              | (exfalso; simp at phs42; done)
              | (exfalso; exact hc46 rfl)
              | (exfalso; simp at hc46; done)
              | (exfalso; omega)
              | (exfalso; rcases hok.2.2.2.2 with h | h <;> omega)
          · refine wp_skip' (to_k0 (fun _ _ h => h) (hK9 _ _ ?_))
            clear hK9
            refine wp_seq' fun K13 hK13 => ?_
            refine wp_reg ?_
            have hok := neededR_ok (f := f) (c := c) (d := d) (aim := aim) (by simpa using hc52)
            refine ol_r (r_func rfl) rfl ?_
            refine ol_r (r_assign rfl) rfl ?_
            refine ol_nil (to_k0 (fun _ _ h => h) (hK13 _ _ ?_))
            clear hK13
            refine wp_seq' fun K14 hK14 => ?_
            refine wp_reg ?_
            refine ol_r (r_move rfl) rfl ?_
            refine ol_r (r_move rfl) rfl ?_
            refine ol_call rfl rfl cb23 rfl (fun w1 hb1 hs1 hB1 => Calls.mono (law_needed1 _ _ _ _ _ _ _ _ (hs1.blk (id := 4) rfl) (hs1.blk (id := 6) rfl) (hs1.blk (id := 5) rfl) (by omega) (inB_iff.1 hok.1.1) (inB_iff.1 hok.1.2.2) (inB_iff.1 hok.1.2.1)) ?_)
            rintro e w2 ⟨rfl, hb2⟩
            refine After.below rfl hb1 hs1 hB1 hb2 ?_
            clear hb2 hB1 hs1 hb1 w2 w1
            refine ol_r (r_move rfl) rfl ?_
            refine ol_r (r_geq rfl rfl) rfl ?_
            refine ol_r (r_move rfl) rfl ?_
            refine ol_split (d := 60) rfl (fun hs60 => ?_) (fun hs60 => ?_)
            · have phs60 := hs60; try simp only [decide_eq_true_eq, decide_eq_false_iff_not, Bool.not_eq_true', Bool.not_eq_false', Bool.not_true, Bool.not_false] at phs60
              refine ol_g rfl rfl hs60 ?_
              refine ol_r (r_move rfl) rfl ?_
              refine ol_g rfl rfl hs60 ?_
              refine ol_r (r_eql rfl rfl) rfl ?_
              refine ol_g rfl rfl hs60 ?_
              refine ol_r (r_move rfl) rfl ?_
              refine ol_split (d := 63) rfl (fun hs63 => ?_) (fun hs63 => ?_)
              · have phs63 := hs63; try simp only [decide_eq_true_eq, decide_eq_false_iff_not, Bool.not_eq_true', Bool.not_eq_false', Bool.not_true, Bool.not_false] at phs63
                refine ol_s rfl rfl hs63 rfl ?_
                refine ol_s rfl rfl hs63 rfl ?_
                refine ol_s rfl rfl hs63 rfl ?_
                refine ol_s rfl rfl hs63 rfl ?_
                refine ol_s rfl rfl hs63 rfl ?_
                refine ol_s rfl rfl hs63 rfl ?_
                refine ol_g rfl rfl hs60 ?_
                refine ol_r (r_pickT rfl hs63 rfl) rfl ?_
                refine ol_r (r_pickT rfl hs60 rfl) rfl ?_
                refine ol_r (r_move rfl) rfl ?_
                refine ol_g rfl rfl rfl ?_
                refine ol_call rfl rfl cb14 rfl (fun w1 hb1 hs1 hB1 => Calls.mono (load_told _) ?_)
                rintro e w2 ⟨rfl, hb2⟩
                refine After.below rfl hb1 hs1 hB1 hb2 ?_
                clear hb2 hB1 hs1 hb1 w2 w1
                refine ol_r (r_pickT rfl rfl rfl) rfl ?_
                refine ol_r (r_assign rfl) rfl ?_
                refine ol_nil (to_k0 (fun _ _ h => h) (hK14 _ _ ?_))
                clear hK14
                refine hQ.ret (rvs1 (rv_t rfl)) (fun _ _ h => h) fun w hb hs hB => ?_
                first
                  | exact ⟨rfl, hb⟩
                  | (exfalso; exact phs37 rfl)
                  | (exfalso; simp at phs42; done)
                  | (exfalso; exact hc46 rfl)
                  | (exfalso; simp at hc46; done)
                  | (exfalso; omega)
                  | (exfalso; rcases hok.2.2.2.2 with h | h <;> omega)
              · have phs63 := hs63; try simp only [decide_eq_true_eq, decide_eq_false_iff_not, Bool.not_eq_true', Bool.not_eq_false', Bool.not_true, Bool.not_false] at phs63
                refine ol_g rfl rfl hs63 ?_
                refine ol_r (r_move rfl) rfl ?_
                refine ol_g rfl rfl hs63 ?_
                refine ol_r (r_move rfl) rfl ?_
                refine ol_g rfl rfl hs63 ?_
                refine ol_r (r_sub rfl rfl (by omega)) rfl ?_
                refine ol_g rfl rfl hs63 ?_
                refine ol_call rfl rfl cb23 rfl (fun w1 hb1 hs1 hB1 => Calls.mono (law_needed1 _ _ _ _ _ _ _ _ (hs1.blk (id := 4) rfl) (hs1.blk (id := 6) rfl) (hs1.blk (id := 5) rfl) (by omega) (inB_iff.1 hok.1.1) (inB_iff.1 hok.1.2.2) (inB_iff.1 hok.1.2.1)) ?_)
                rintro e w2 ⟨rfl, hb2⟩
                refine After.below rfl hb1 hs1 hB1 hb2 ?_
                clear hb2 hB1 hs1 hb1 w2 w1
                refine ol_g rfl rfl hs63 ?_
                refine ol_r (r_move rfl) rfl ?_
                refine ol_g rfl rfl hs63 ?_
                refine ol_r (r_lss rfl rfl) rfl ?_
                refine ol_g rfl rfl hs60 ?_
                refine ol_r (r_pickF rfl hs63 rfl) rfl ?_
                refine ol_r (r_pickT rfl hs60 rfl) rfl ?_
                refine ol_r (r_move rfl) rfl ?_
                refine ol_split (d := 72) rfl (fun hs72 => ?_) (fun hs72 => ?_)
                · have phs72 := hs72; try simp only [decide_eq_true_eq, decide_eq_false_iff_not, Bool.not_eq_true', Bool.not_eq_false', Bool.not_true, Bool.not_false] at phs72
                  refine ol_g rfl rfl hs72 ?_
                  refine ol_call rfl rfl cb14 rfl (fun w1 hb1 hs1 hB1 => Calls.mono (load_told _) ?_)
                  rintro e w2 ⟨rfl, hb2⟩
                  refine After.below rfl hb1 hs1 hB1 hb2 ?_
                  clear hb2 hB1 hs1 hb1 w2 w1
                  refine ol_r (r_pickT rfl hs72 rfl) rfl ?_
                  refine ol_r (r_assign rfl) rfl ?_
                  refine ol_nil (to_k0 (fun _ _ h => h) (hK14 _ _ ?_))
                  clear hK14
                  refine hQ.ret (rvs1 (rv_t rfl)) (fun _ _ h => h) fun w hb hs hB => ?_
                  first
                    | exact ⟨rfl, hb⟩
                    | (exfalso; exact phs37 rfl)
                    | (exfalso; simp at phs42; done)
                    | (exfalso; exact hc46 rfl)
                    | (exfalso; simp at hc46; done)
                    | (exfalso; omega)
                    | (exfalso; rcases hok.2.2.2.2 with h | h <;> omega)
                · have phs72 := hs72; try simp only [decide_eq_true_eq, decide_eq_false_iff_not, Bool.not_eq_true', Bool.not_eq_false', Bool.not_true, Bool.not_false] at phs72
                  refine ol_s rfl rfl hs72 rfl ?_
                  refine ol_r (r_pickF rfl hs72 rfl) rfl ?_
                  refine ol_r (r_assign rfl) rfl ?_
                  refine ol_nil (to_k0 (fun _ _ h => h) (hK14 _ _ ?_))
                  clear hK14
                  refine hQ.ret (rvs1 (rv_t rfl)) (fun _ _ h => h) fun w hb hs hB => ?_
                  first
                    | exact ⟨rfl, hb⟩
                    | (exfalso; exact phs37 rfl)
                    | (exfalso; simp at phs42; done)
                    | (exfalso; exact hc46 rfl)
                    | (exfalso; simp at hc46; done)
                    | (exfalso; omega)
                    | (exfalso; rcases hok.2.2.2.2 with h | h <;> omega)
            · have phs60 := hs60; try simp only [decide_eq_true_eq, decide_eq_false_iff_not, Bool.not_eq_true', Bool.not_eq_false', Bool.not_true, Bool.not_false] at phs60
              refine ol_s rfl rfl hs60 rfl ?_
              refine ol_s rfl rfl hs60 rfl ?_
              refine ol_s rfl rfl hs60 rfl ?_
              refine ol_u rfl rfl rfl ?_
              refine ol_u rfl rfl rfl ?_
              refine ol_u rfl rfl rfl ?_
              refine ol_u rfl rfl rfl ?_
              refine ol_u rfl rfl rfl ?_
              refine ol_u rfl rfl rfl ?_
              refine ol_s rfl rfl hs60 rfl ?_
              refine ol_r (r_pickF rfl hs60 rfl) rfl ?_
              refine ol_r (r_move rfl) rfl ?_
              refine ol_s rfl rfl rfl rfl ?_
              refine ol_r (r_pickF rfl rfl rfl) rfl ?_
              refine ol_r (r_assign rfl) rfl ?_
              refine ol_nil (to_k0 (fun _ _ h => h) (hK14 _ _ ?_))
              clear hK14
              refine hQ.ret (rvs1 (rv_t rfl)) (fun _ _ h => h) fun w hb hs hB => ?_
              first
                | exact ⟨rfl, hb⟩
                | (exfalso; exact phs37 rfl)
                | (exfalso; simp at phs42; done)
                | (exfalso; exact hc46 rfl)
                | (exfalso; simp at hc46; done)
                | (exfalso; omega)
                | (exfalso; rcases hok.2.2.2.2 with h | h <;> omega)
end Go.Proofs.Ytamlldedmhkobaa
