/-
  Keep: program and reference; TrackKeepMatchesSpec.
-/
import Derived.Test.YtlbcefnbjdpljaaKeep
namespace Go.Proofs.Ytlbcefnbjdpljaa
open Go Go.RowKit Hx
set_option linter.unusedVariables false
set_option linter.unusedSimpArgs false
set_option maxRecDepth 8000
def nextI (ss : List SmpR) (fast : Int) (i : Nat) : Nat := nextL (agS ss fast) ss.length ss.length i
def longI (ss : List SmpR) (fast : Int) (i : Nat) : Int := keepL (agS ss fast) ss.length ss.length i
theorem next_is {ss : List SmpR} {fast : Int} {i k : Nat} (hik : i < k) (hk : k < ss.length) (ha : agS ss fast i k = true) (hl : longI ss fast k = longI ss fast i - 1) (hP : ∀ j, i < j → j < k → agS ss fast i j = true → longI ss fast j ≠ longI ss fast i - 1) : nextI ss fast i = k := by
  obtain ⟨q1, q2, q3, q4⟩ := nextL_spec (ag := agS ss fast) (show i < ss.length by omega)
  rcases Nat.lt_trichotomy (nextI ss fast i) k with h | h | h
  · have h3 := q3 (Nat.lt_trans h hk)
    exact absurd h3.2 (hP _ q1 h h3.1)
  · exact h
  · exact absurd hl (q4 k hik h ha)
theorem next_no {ss : List SmpR} {fast : Int} {i : Nat} (hi : i < ss.length) (hP : ∀ j, i < j → j < ss.length → agS ss fast i j = true → longI ss fast j ≠ longI ss fast i - 1) : ¬ nextI ss fast i < ss.length := by
  intro h
  obtain ⟨q1, q2, q3, q4⟩ := nextL_spec (ag := agS ss fast) hi
  have h3 := q3 h
  exact hP _ q1 h h3.1 h3.2
/-- What is captured, as it lies. -/
structure KeepOk (A : ActV) (fast : Int) (b7 b8 b2 b3 : Nat) (al : Option Addr) (c : Nat) (w : World) : Prop where
  n : Blk w.heap.size w b7 [(0, .int .i64 A.sn)]
  l : Blk w.heap.size w b8 [(0, .slice al A.sn c)]
  a : Blk w.heap.size w b2 (pairs 0 [.string A.name, .int .i64 A.sport, .int .i64 A.start, .slice A.sa A.sn A.sc, .slice A.la A.ln A.lc, .slice A.ta A.tn A.tc])
  f : Blk w.heap.size w b3 [(0, .int .i64 fast)]
  r : Rd encI w.heap.size w al A.sn c (tab A.ss.length (longI A.ss fast))
  ok : A.Ok w.heap.size w
  smp : SmpOk A.start A.ss
  fast : 1 ≤ fast ∧ fast ≤ 100000
theorem KeepOk.at {A : ActV} {fast : Int} {b7 b8 b2 b3 : Nat} {al : Option Addr} {c : Nat} {w w1 : World} (h : KeepOk A fast b7 b8 b2 b3 al c w) (hb : Below w.heap.size w w1) (hB : w.heap.size ≤ w1.heap.size) : KeepOk A fast b7 b8 b2 b3 al c w1 :=
  ⟨h.n.at hb hB, h.l.at hb hB, h.a.at hb hB, h.f.at hb hB, h.r.at hb hB, h.ok.at hb hB, h.smp, h.fast⟩
theorem keep_next (A : ActV) (fast : Int) (b7 b8 b2 b3 : Nat) (al : Option Addr) (c i : Nat) (w : World) (h : KeepOk A fast b7 b8 b2 b3 al c w) (hi : i < A.ss.length) :
    Calls Try.prog 57 #[.int .i64 i, .pointer (some ⟨b7, 0, none⟩), .pointer (some ⟨b8, 0, none⟩), .pointer (some ⟨b2, 0, none⟩), .pointer (some ⟨b3, 0, none⟩)] w fun e w' =>
      e = .returned (.tuple #[.int .i64 ((if nextI A.ss fast i < A.ss.length then nextI A.ss fast i else 0 : Nat) : Int), .bool (decide (nextI A.ss fast i < A.ss.length))]) ∧ Below w.heap.size w w' := by
  have h7 := h.n
  have h8 := h.l
  have h2 := h.a
  have h3 := h.f
  have hr := h.r
  have hs := h.ok.s
  have hsn := h.ok.s.len
  have hsf := h.ok.s.fit
  have hok := h.smp
  have hl20 := hok.len
  obtain ⟨q1, q2, q3, q4⟩ := nextL_spec (ag := agS A.ss fast) hi
  refine enterQ (N := 41) (C := fun _ => True) (H := []) (B := w.heap.size) (args := [_, _, _, _, _]) Try.func57 rfl rfl rfl (Nat.le_refl _) (Sat.nil _ _) fun Q hQ => ?_
  refine wp_seq' fun K1 hK1 => ?_
  refine wp_reg ?_
  refine ol_r (r_assign rfl) rfl ?_
  refine ol_r (r_assign rfl) rfl ?_
  refine ol_nil (to_k0 (fun _ _ h => h) (hK1 _ _ _ _ _ ?_))
  clear hK1
  refine wp_seq' fun K2 hK2 => ?_
  refine wp_seq' fun K3 hK3 => ?_
  refine wp_reg ?_
  refine ol_r (r_move rfl) rfl ?_
  refine ol_r (r_add rfl rfl (by omega)) rfl ?_
  refine ol_r (r_assign rfl) rfl ?_
  refine ol_nil (to_k0 (fun _ _ h => h) (hK3 _ _ _ _ _ ?_))
  clear hK3
  refine wp_block' ?_
  apply wp_loopM (σ := Nat) (fun s => i < s ∧ s ≤ A.ss.length ∧ ∀ j, i < j → j < s → agS A.ss fast i j = true → longI A.ss fast j ≠ longI A.ss fast i - 1) (fun s => [(8, .int .i64 s)]) [(0, _), (1, _), (2, _), (3, _), (4, _)] (fun s => []) [] (fun s => A.ss.length - s) (i + 1)
  ·try dsimp only
   exact ⟨by omega, by omega, fun j a b => by omega⟩
  ·exact (sub_cons rfl sub_nil)
  ·exact (sub_cons rfl (sub_cons rfl (sub_cons rfl (sub_cons rfl (sub_cons rfl sub_nil)))))
  ·exact subH_nil
  ·exact subH_nil
  ·rintro k ⟨hk1, hk2, hP⟩
   intro K4 hK4
   refine wp_seq' fun K5 hK5 => ?_
   refine wp_seq' fun K6 hK6 => ?_
   refine wp_reg ?_
   refine ol_r (r_move rfl) rfl ?_
   refine ol_r (r_ldw rfl (fun w1 hb1 hs1 hB1 => Blk.loads (o := 0) h7 hb1 sc3 rfl)) rfl ?_
   refine ol_r (r_lss rfl rfl) rfl ?_
   refine ol_nil (to_k0 (fun _ _ h => h) (hK6 _ _ _ _ _ ?_))
   clear hK6
   first | refine wp_condD rfl (fun hc13 => ?_) (fun hc13 => ?_) | refine wp_condN rfl (fun hc13 => ?_) (fun hc13 => ?_) | refine wp_condNB rfl (fun hc13 => ?_) (fun hc13 => ?_) | refine wp_cond' rfl (fun hc13 => ?_) (fun hc13 => ?_)
   ·refine wp_skip' (to_k0 (fun _ _ h => h) (hK5 _ _ _ _ _ ?_))
    clear hK5
    refine wp_seq' fun K7 hK7 => ?_
    refine wp_block' ?_
    refine wp_seq' fun K8 hK8 => ?_
    refine wp_regq (by kernel_rfl) (by kernel_rfl) ?_
    refine ql_r (r_ldw rfl (fun w1 hb1 hs1 hB1 => Blk.loads (o := 0) h8 hb1 sc34 rfl)) rfl ?_
    refine ql_r (r_move rfl) rfl ?_
    refine ql_ixr hr rfl rfl sl34 (by omega) rfl fun x18 hx18 => ?_
    try simp only [Int.toNat_natCast] at hx18
    refine ql_r (r_ldw rfl (fun w1 hb1 hs1 hB1 => show Loads _ _ _ _ (.int .i64 x18) from Rd.loads hr ty3 hx18 hb1)) rfl ?_
    refine ql_r (r_ldw rfl (fun w1 hb1 hs1 hB1 => Blk.loads (o := 0) h8 hb1 sc34 rfl)) rfl ?_
    refine ql_r (r_move rfl) rfl ?_
    refine ql_ixr hr rfl rfl sl34 (by omega) rfl fun x22 hx22 => ?_
    try simp only [Int.toNat_natCast] at hx22
    refine ql_r (r_ldw rfl (fun w1 hb1 hs1 hB1 => show Loads _ _ _ _ (.int .i64 x22) from Rd.loads hr ty3 hx22 hb1)) rfl ?_
    have h18 := (tab_get hx18).2
    have h22 := (tab_get hx22).2
    have hpi : 0 ≤ longI A.ss fast i ∧ longI A.ss fast i ≤ A.ss.length ∧ _ := keepL_pos (ag := agS A.ss fast) (n := A.ss.length) A.ss.length i (Nat.le_refl _)
    refine ql_r (r_sub rfl rfl (by omega)) rfl ?_
    refine ql_r (r_eql rfl rfl) rfl ?_
    refine ql_r (r_move rfl) rfl ?_
    refine ql_split (d := 26) rfl (fun hs26 => ?_) (fun hs26 => ?_)
    ·have phs26 := hs26; try simp only [decide_eq_true_eq, decide_eq_false_iff_not, Bool.not_eq_true', Bool.not_eq_false', Bool.not_true, Bool.not_false] at phs26
     refine ql_g rfl rfl hs26 ?_
     refine ql_r (r_fa (o' := 3) rfl fl26_3 rfl) rfl ?_
     refine ql_g rfl rfl hs26 ?_
     refine ql_r (r_ldw rfl (fun w1 hb1 hs1 hB1 => Blk.loads (o := 3) h2 hb1 sc22 rfl)) rfl ?_
     refine ql_g rfl rfl hs26 ?_
     refine ql_r (r_move rfl) rfl ?_
     refine ql_g rfl rfl hs26 ?_
     refine ql_ixr hs rfl rfl sl22 (by omega) rfl fun x30 hx30 => ?_
     try simp only [Int.toNat_natCast] at hx30
     refine ql_g rfl rfl hs26 ?_
     refine ql_r (r_ldw rfl (fun w1 hb1 hs1 hB1 => Rd.loads hs ty36 hx30 hb1)) rfl ?_
     refine ql_g rfl rfl hs26 ?_
     refine ql_r (r_fa (o' := 3) rfl fl26_3 rfl) rfl ?_
     refine ql_g rfl rfl hs26 ?_
     refine ql_r (r_ldw rfl (fun w1 hb1 hs1 hB1 => Blk.loads (o := 3) h2 hb1 sc22 rfl)) rfl ?_
     refine ql_g rfl rfl hs26 ?_
     refine ql_r (r_move rfl) rfl ?_
     refine ql_g rfl rfl hs26 ?_
     refine ql_ixr hs rfl rfl sl22 (by omega) rfl fun x35 hx35 => ?_
     try simp only [Int.toNat_natCast] at hx35
     refine ql_g rfl rfl hs26 ?_
     refine ql_r (r_ldw rfl (fun w1 hb1 hs1 hB1 => Rd.loads hs ty36 hx35 hb1)) rfl ?_
     refine ql_g rfl rfl hs26 ?_
     refine ql_r (r_ldw rfl (fun w1 hb1 hs1 hB1 => Blk.loads (o := 0) h3 hb1 sc3 rfl)) rfl ?_
     refine ql_g rfl rfl hs26 ?_
     refine ql_call rfl rfl cb53 rfl (fun w1 hb1 hs1 hB1 => track_agree fast x30 x35 _ h.fast (hok.place (List.mem_of_getElem? hx30)) (hok.place (List.mem_of_getElem? hx35)) (hok.at_lt hx30 hx35 (by omega)).1 (hok.at_lt hx30 hx35 (by omega)).2.1 (hok.at_lt hx30 hx35 (by omega)).2.2) ?_
     refine ql_r (r_pickT rfl hs26 rfl) rfl ?_
     refine ql_nil (to_k0 (fun _ _ h => h) (hK8 _ _ _ _ _ ?_))
     clear hK8
     first | refine wp_condD rfl (fun hc39 => ?_) (fun hc39 => ?_) | refine wp_condN rfl (fun hc39 => ?_) (fun hc39 => ?_) | refine wp_condNB rfl (fun hc39 => ?_) (fun hc39 => ?_) | refine wp_cond' rfl (fun hc39 => ?_) (fun hc39 => ?_)
     ·refine wp_seq' fun K9 hK9 => ?_
      refine wp_reg ?_
      refine ol_r (r_move rfl) rfl ?_
      refine ol_r (r_assign rfl) rfl ?_
      refine ol_r (r_assign rfl) rfl ?_
      refine ol_nil (to_k0 (fun _ _ h => h) (hK9 _ _ _ _ _ ?_))
      clear hK9
      refine hQ.ret (rvs2 (rv_t rfl) (rv_t rfl)) (fun _ _ h => h) fun w hb hs hB hkd => ?_
      have hkl : k < A.ss.length := by omega
      have hn := next_is hk1 hkl (by rw [agS_eq hx30 hx35]; exact decide_eq_true hc39) (by rw [← h18, ← h22]; exact phs26) hP
      exact ⟨by rw [hn, if_pos hkl, decide_eq_true hkl], hb⟩
     ·refine wp_skip' (to_k0 (fun _ _ h => h) (hK7 _ _ _ _ _ ?_))
      clear hK7
      refine wp_reg ?_
      refine ol_r (r_move rfl) rfl ?_
      refine ol_r (r_add rfl rfl (by omega)) rfl ?_
      refine ol_r (r_assign rfl) rfl ?_
      refine ol_nil (to_k0 (fun _ _ h => h) (hK4 (k + 1) _ _ ?_ ?_ (sub_cons rfl sub_nil) (sub_cons rfl (sub_cons rfl (sub_cons rfl (sub_cons rfl (sub_cons rfl sub_nil))))) (by exact subH_nil) subH_nil))
      ·try dsimp only
       refine ⟨by omega, by omega, fun j a b hj => ?_⟩
       by_cases hjk : j < k
       · exact hP j a hjk hj
       · have hjk2 : j = k := by omega
         subst hjk2
         first
           | (rw [agS_eq hx30 hx35] at hj; exact absurd (of_decide_eq_true hj) hc39)
           | (rw [← h18, ← h22]; exact phs26)
      ·try dsimp only
       omega
    ·have phs26 := hs26; try simp only [decide_eq_true_eq, decide_eq_false_iff_not, Bool.not_eq_true', Bool.not_eq_false', Bool.not_true, Bool.not_false] at phs26
     refine ql_s rfl rfl hs26 rfl ?_
     refine ql_s rfl rfl hs26 rfl ?_
     refine ql_s rfl rfl hs26 rfl ?_
     refine ql_s rfl rfl hs26 rfl ?_
     refine ql_s rfl rfl hs26 rfl ?_
     refine ql_s rfl rfl hs26 rfl ?_
     refine ql_s rfl rfl hs26 rfl ?_
     refine ql_s rfl rfl hs26 rfl ?_
     refine ql_s rfl rfl hs26 rfl ?_
     refine ql_s rfl rfl hs26 rfl ?_
     refine ql_s rfl rfl hs26 rfl ?_
     refine ql_s rfl rfl hs26 rfl ?_
     refine ql_r (r_pickF rfl hs26 rfl) rfl ?_
     refine ql_nil (to_k0 (fun _ _ h => h) (hK8 _ _ _ _ _ ?_))
     clear hK8
     refine wp_condF rfl ?_
     refine wp_skip' (to_k0 (fun _ _ h => h) (hK7 _ _ _ _ _ ?_))
     clear hK7
     refine wp_reg ?_
     refine ol_r (r_move rfl) rfl ?_
     refine ol_r (r_add rfl rfl (by omega)) rfl ?_
     refine ol_r (r_assign rfl) rfl ?_
     refine ol_nil (to_k0 (fun _ _ h => h) (hK4 (k + 1) _ _ ?_ ?_ (sub_cons rfl sub_nil) (sub_cons rfl (sub_cons rfl (sub_cons rfl (sub_cons rfl (sub_cons rfl sub_nil))))) (by exact subH_nil) subH_nil))
     ·try dsimp only
      refine ⟨by omega, by omega, fun j a b hj => ?_⟩
      by_cases hjk : j < k
      · exact hP j a hjk hj
      · have hjk2 : j = k := by omega
        subst hjk2
        first
          | (rw [agS_eq hx30 hx35] at hj; exact absurd (of_decide_eq_true hj) hc39)
          | (rw [← h18, ← h22]; exact phs26)
     ·try dsimp only
      omega
   ·refine wp_exit' (to_k0 (fun _ _ h => h) (hK2 _ _ _ _ _ ?_))
    clear hK2
    refine wp_seq' fun K10 hK10 => ?_
    refine wp_reg ?_
    refine ol_r (r_assign rfl) rfl ?_
    refine ol_r (r_assign rfl) rfl ?_
    refine ol_nil (to_k0 (fun _ _ h => h) (hK10 _ _ _ _ _ ?_))
    clear hK10
    refine hQ.ret (rvs2 (rv_t rfl) (rv_t rfl)) (fun _ _ h => h) fun w hb hs hB hkd => ?_
    have hno := next_no hi (fun j a b hj => hP j a (by omega) hj)
    exact ⟨by rw [if_neg hno, decide_eq_false hno]; rfl, hb⟩
theorem chain_keep (A : ActV) (fast : Int) (b7 b8 b2 b3 : Nat) (al : Option Addr) (c i0 : Nat) (w : World) (h : KeepOk A fast b7 b8 b2 b3 al c w) (hi0 : i0 < A.ss.length) :
    Calls Try.prog 56 #[.int .i64 i0, .int .i64 (A.sn - 1), .func (.func 57) #[] #[.pointer (some ⟨b7, 0, none⟩), .pointer (some ⟨b8, 0, none⟩), .pointer (some ⟨b2, 0, none⟩), .pointer (some ⟨b3, 0, none⟩)]] w fun e w' =>
      ∃ b m k, e = .returned (.slice b m k) ∧ Fresh encI 3 w w' b m k (chainK (agS A.ss fast) A.ss.length (A.ss.length + 1) i0) := by
  have hsn := h.ok.s.len
  have hl20 := h.smp.len
  refine enterQ (N := 24) (C := fun _ => True) (H := []) (B := w.heap.size) (args := [_, _, _]) Try.func56 rfl rfl rfl (Nat.le_refl _) (Sat.nil _ _) fun Q hQ => ?_
  refine wp_seq' fun K1 hK1 => ?_
  refine wp_reg ?_
  refine ol_r (r_assign rfl) rfl ?_
  refine ol_nil (to_k0 (fun _ _ h => h) (hK1 _ _ _ _ _ ?_))
  clear hK1
  refine wp_seq' fun K2 hK2 => ?_
  refine wp_reg ?_
  refine ol_nilrow 7 3 1 ?_
  refine ol_r (r_assign rfl) rfl ?_
  refine ol_nil (to_k0 (fun _ _ h => h) (hK2 _ _ _ _ _ ?_))
  clear hK2
  refine wp_seq' fun K3 hK3 => ?_
  refine wp_seq' fun K4 hK4 => ?_
  refine wp_reg ?_
  refine ol_r (r_move rfl) rfl ?_
  refine ol_r (r_move rfl) rfl ?_
  refine ol_r (r_leq rfl rfl) rfl ?_
  refine ol_r (r_assign rfl) rfl ?_
  refine ol_nil (to_k0 (fun _ _ h => h) (hK4 _ _ _ _ _ ?_))
  clear hK4
  refine wp_block' ?_
  apply wp_loopM (σ := List Int × Nat × Bool × Nat × Option Addr × Nat) (fun s => s.1.length = s.2.2.2.1 ∧ s.2.2.2.1 ≤ A.ss.length ∧ (s.2.2.1 = true → s.2.2.2.1 ≤ s.2.1 ∧ s.2.1 < A.ss.length) ∧ ∃ f, (s.2.2.1 = true → A.ss.length ≤ s.2.1 + f) ∧ s.1 ++ (if s.2.2.1 = true then chainK (agS A.ss fast) A.ss.length f s.2.1 else []) = chainK (agS A.ss fast) A.ss.length (A.ss.length + 1) i0) (fun s => [(0, .int .i64 s.2.1), (8, .bool s.2.2.1), (7, .slice s.2.2.2.2.1 s.2.2.2.1 s.2.2.2.2.2)]) [(2, _), (6, _)] (fun s => [(7, .row s.2.2.2.2.1 s.2.2.2.1 s.2.2.2.2.2 (encI.enc s.1) 3 1)]) [] (fun s => if s.2.2.1 = true then A.ss.length + 1 - s.2.1 else 0) (([], i0, true, 0, none, 0))
  ·try dsimp only
   exact ⟨rfl, Nat.zero_le _, fun _ => ⟨Nat.zero_le _, hi0⟩, A.ss.length + 1, fun _ => by omega, rfl⟩
  ·exact (sub_cons (by first | rfl | (first | rfl | (rw [decide_eq_true (by omega)]; rfl))) (sub_cons (by first | rfl | (first | rfl | (rw [decide_eq_true (by omega)]; rfl))) (sub_cons (by first | rfl | (first | rfl | (rw [decide_eq_true (by omega)]; rfl))) sub_nil)))
  ·exact (sub_cons rfl (sub_cons rfl sub_nil))
  ·exact (subH_row rfl (by first | (dsimp only; rfl; done) | (rfl; done) | (dsimp only; done)) subH_nil)
  ·exact subH_nil
  ·rintro ⟨ys, i, mo, cnt, oa, oc⟩ ⟨hcnt, hcn, hmo, f, hf, hT⟩
   dsimp only at hcnt hcn hmo hf hT ⊢
   intro K5 hK5
   refine wp_seq' fun K6 hK6 => ?_
   refine wp_seq' fun K7 hK7 => ?_
   refine wp_reg ?_
   refine ol_r (r_move rfl) rfl ?_
   refine ol_nil (to_k0 (fun _ _ h => h) (hK7 _ _ _ _ _ ?_))
   clear hK7
   first | refine wp_condD rfl (fun hc12 => ?_) (fun hc12 => ?_) | refine wp_condN rfl (fun hc12 => ?_) (fun hc12 => ?_) | refine wp_condNB rfl (fun hc12 => ?_) (fun hc12 => ?_) | refine wp_cond' rfl (fun hc12 => ?_) (fun hc12 => ?_)
   ·refine wp_skip' (to_k0 (fun _ _ h => h) (hK6 _ _ _ _ _ ?_))
    clear hK6
    refine wp_block' ?_
    refine wp_seq' fun K8 hK8 => ?_
    refine wp_reg ?_
    obtain ⟨g1, g2⟩ := hmo hc12
    have hf1 := hf hc12
    obtain ⟨f', rfl⟩ : ∃ f', f = f' + 1 := ⟨f - 1, by omega⟩
    rw [if_pos hc12, chainK_go g2] at hT
    have q1 : i < nextI A.ss fast i := (nextL_spec (ag := agS A.ss fast) g2).1
    change ys ++ ↑i :: chainK (agS A.ss fast) A.ss.length f' (nextI A.ss fast i) = _ at hT
    refine ol_r (r_move rfl) rfl ?_
    refine ol_r (r_move rfl) rfl ?_
    refine ol_bs1 15 rfl rfl rw34 rfl rfl rfl fun a15 => ?_
    refine ol_append1 (id := 7) (id2 := 15) rfl rfl rfl rfl rfl rw34 (by omega) rfl fun a16 c16 => ?_
    refine ol_r (r_assign rfl) rfl ?_
    refine ol_nil (to_k0 (fun _ _ h => h) (hK8 _ _ _ _ _ ?_))
    clear hK8
    refine wp_reg ?_
    refine ol_r (r_move rfl) rfl ?_
    refine ol_r (r_move rfl) rfl ?_
    refine ol_call rfl rfl cb57 rfl (fun w1 hb1 hs1 hB1 => Calls.mono (keep_next A fast b7 b8 b2 b3 al c i _ (h.at hb1 hB1) g2) ?_)
    rintro e w2 ⟨rfl, hb2⟩
    refine After.below rfl hb1 hs1 hB1 hb2 ?_
    clear hb2 hB1 hs1 hb1 w2 w1
    refine ol_r (r_move rfl) rfl ?_
    refine ol_r (r_extract rfl rfl) rfl ?_
    refine ol_r (r_extract rfl rfl) rfl ?_
    refine ol_r (r_assign rfl) rfl ?_
    refine ol_r (r_assign rfl) rfl ?_
    refine ol_nil (to_k0 (fun _ _ h => h) (hK5 ((ys ++ [(i : Int)], (if nextI A.ss fast i < A.ss.length then nextI A.ss fast i else 0), decide (nextI A.ss fast i < A.ss.length), _, _, _)) _ _ ?_ ?_ (sub_cons rfl (sub_cons rfl (sub_cons rfl sub_nil))) (sub_cons rfl (sub_cons rfl sub_nil)) (by exact (subH_row rfl (by first | (dsimp only; rw [Enc.enc_append]; rfl; done) | (rw [Enc.enc_append]; rfl; done) | (dsimp only; done)) subH_nil)) subH_nil))
    ·try dsimp only
     refine ⟨by simp [hcnt], by omega, fun h1 => ?_, f', fun h1 => ?_, ?_⟩
     · have h2 := of_decide_eq_true h1
       rw [if_pos h2]
       omega
     · have h2 := of_decide_eq_true h1
       rw [if_pos h2]
       omega
     · by_cases h2 : nextI A.ss fast i < A.ss.length
       · rw [if_pos (decide_eq_true h2), if_pos h2, ← hT, List.append_assoc]; rfl
       · rw [if_neg (by rw [decide_eq_false h2]; decide), ← hT, chainK_stop (by omega)]; simp
    ·try dsimp only
     rw [if_pos hc12]
     by_cases h2 : nextI A.ss fast i < A.ss.length
     · rw [if_pos (decide_eq_true h2), if_pos h2]; omega
     · rw [if_neg (by rw [decide_eq_false h2]; decide)]; omega
   ·refine wp_exit' (to_k0 (fun _ _ h => h) (hK3 _ _ _ _ _ ?_))
    clear hK3
    refine wp_seq' fun K9 hK9 => ?_
    refine wp_reg ?_
    refine ol_r (r_move rfl) rfl ?_
    refine ol_r (r_assign rfl) rfl ?_
    refine ol_nil (to_k0 (fun _ _ h => h) (hK9 _ _ _ _ _ ?_))
    clear hK9
    refine hQ.ret (rvs1 (rv_t rfl)) (fun _ _ h => h) fun w hb hs hB hkd => ?_
    rw [if_neg (by rw [hc12]; decide), List.append_nil] at hT
    exact ⟨_, _, _, rfl, hb, by rw [← hT]; exact hs.ok 7 _ rfl⟩
end Go.Proofs.Ytlbcefnbjdpljaa
