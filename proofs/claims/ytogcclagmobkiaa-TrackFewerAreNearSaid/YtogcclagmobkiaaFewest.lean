/-
  Fewest: the program.
-/
import Derived.Test.YtogcclagmobkiaaSimp
import Derived.Test.YtogcclagmobkiaaHill
import Derived.Test.YtogcclagmobkiaaFewestM
namespace Go.Proofs.Ytogcclagmobkiaa
open Go Go.RowKit Hx
set_option linter.unusedVariables false
set_option linter.unusedSimpArgs false
set_option maxRecDepth 8000
namespace Hx
theorem Sat.blkS {B : Nat} {H : HL} {w : World} {id b : Nat} {cl cl' : List (Nat × Value)} {T : TypeId} (h : Sat B w H) (hH : look H id = some (.blk b cl' T)) (hs : Sub cl cl') : Blk w.heap.size w b cl := ⟨(h.blk hH).1, fun o u ho => (h.blk hH).2 o u (hs.out _ _ ho)⟩
end Hx
/-- What enough captures, as it lies. -/
structure EnoughOk (A : ActV) (most : Int) (b2 b3 : Nat) (w : World) : Prop where
  a : Blk w.heap.size w b2 (pairs 0 [.string A.name, .int .i64 A.sport, .int .i64 A.start, .slice A.sa A.sn A.sc, .slice A.la A.ln A.lc, .slice A.ta A.tn A.tc])
  f : Blk w.heap.size w b3 [(0, .int .i64 most)]
  ok : A.Ok w.heap.size w
  smp : SmpOk A.start A.ss
  most : 0 ≤ most ∧ most ≤ 100000000
theorem enough_no {ss : List SmpR} {M : Int} {i j k : Nat} (h1 : i < k) (h2 : k < j) (h : M < errI ss i k j) : enoughB ss M i j = false := by
  rw [← Bool.not_eq_true]
  intro h3
  have := enoughB_iff.1 h3 k h1 h2
  omega
theorem few_enough (A : ActV) (most : Int) (b2 b3 i j : Nat) (w : World) (h : EnoughOk A most b2 b3 w) (hij : i < j) (hj : j < A.ss.length) :
    Calls Try.prog 60 #[.int .i64 i, .int .i64 j, .pointer (some ⟨b2, 0, none⟩), .pointer (some ⟨b3, 0, none⟩)] w fun e w' =>
      e = .returned (.bool (enoughB A.ss (most * most) i j)) ∧ Below w.heap.size w w' := by
  have h2 := h.a
  have h3 := h.f
  have hs := h.ok.s
  have hok := h.smp
  have hm := h.most
  have hl20 := hok.len
  have hmm := mul_bd (a := most) (b := most) (A := 100000000) (B := 100000000) (by omega) (by omega) (by omega) (by omega)
  refine enterQ (N := 25) (C := fun _ => True) (H := []) (B := w.heap.size) (args := [_, _, _, _]) Try.func60 rfl rfl rfl (Nat.le_refl _) (Sat.nil _ _) fun Q hQ => ?_
  refine wp_seq' fun K1 hK1 => ?_
  refine wp_reg ?_
  refine ol_r (r_assign rfl) rfl ?_
  refine ol_nil (to_k0 (fun _ _ h => h) (hK1 _ _ _ _ _ ?_))
  clear hK1
  refine wp_seq' fun K2 hK2 => ?_
  refine wp_seq' fun K3 hK3 => ?_
  refine wp_reg ?_
  refine ol_r (r_move rfl) rfl ?_
  refine ol_r (r_add rfl rfl (by omega)) rfl ?_
  refine ol_r (r_assign rfl) rfl ?_
  refine ol_nil (to_k0 (fun _ _ h => h) (hK3 _ _ _ _ _ ?_))
  clear hK3
  refine wp_block' ?_
  apply wp_loopM (σ := Nat) (fun s => i + 1 ≤ s ∧ s ≤ j ∧ ∀ x, i < x → x < s → errI A.ss i x j ≤ most * most) (fun s => [(7, .int .i64 s)]) [(0, _), (1, _), (2, _), (3, _)] (fun s => []) [] (fun s => j - s) (i + 1)
  ·try dsimp only
   exact ⟨Nat.le_refl _, by omega, fun x a b => by omega⟩
  ·exact (sub_cons rfl sub_nil)
  ·exact (sub_cons rfl (sub_cons rfl (sub_cons rfl (sub_cons rfl sub_nil))))
  ·exact subH_nil
  ·exact subH_nil
  ·rintro k ⟨hk1, hk2, hP⟩
   intro K4 hK4
   refine wp_seq' fun K5 hK5 => ?_
   refine wp_seq' fun K6 hK6 => ?_
   refine wp_reg ?_
   refine ol_r (r_move rfl) rfl ?_
   refine ol_r (r_move rfl) rfl ?_
   refine ol_r (r_lss rfl rfl) rfl ?_
   refine ol_nil (to_k0 (fun _ _ h => h) (hK6 _ _ _ _ _ ?_))
   clear hK6
   refine wp_condD rfl (fun hc12 => ?_) (fun hc12 => ?_)
   ·refine wp_skip' (to_k0 (fun _ _ h => h) (hK5 _ _ _ _ _ ?_))
    clear hK5
    refine wp_seq' fun K7 hK7 => ?_
    refine wp_block' ?_
    refine wp_seq' fun K8 hK8 => ?_
    refine wp_regq (by kernel_rfl) (by kernel_rfl) ?_
    refine ql_r (r_fa (o' := 3) rfl fl26_3 rfl) rfl ?_
    refine ql_r (r_ldw rfl (fun w1 hb1 hs1 hB1 => Blk.loads (o := 3) h2 hb1 sc22 rfl)) rfl ?_
    refine ql_r (r_move rfl) rfl ?_
    refine ql_r (r_move rfl) rfl ?_
    refine ql_r (r_move rfl) rfl ?_
    refine ql_call rfl rfl cb58 rfl (fun w1 hb1 hs1 hB1 => track_failing _ _ _ A.ss A.start i k j _ (hs.at hb1 hB1) hok (by omega) (by omega) hj) ?_
    refine ql_r (r_ldw rfl (fun w1 hb1 hs1 hB1 => Blk.loads (o := 0) h3 hb1 sc3 rfl)) rfl ?_
    refine ql_r (r_ldw rfl (fun w1 hb1 hs1 hB1 => Blk.loads (o := 0) h3 hb1 sc3 rfl)) rfl ?_
    refine ql_r (r_mul rfl rfl (by omega)) rfl ?_
    refine ql_r (r_gtr rfl rfl) rfl ?_
    refine ql_nil (to_k0 (fun _ _ h => h) (hK8 _ _ _ _ _ ?_))
    clear hK8
    refine wp_condD rfl (fun hc24 => ?_) (fun hc24 => ?_)
    ·refine wp_seq' fun K9 hK9 => ?_
     refine wp_reg ?_
     refine ol_r (r_assign rfl) rfl ?_
     refine ol_nil (to_k0 (fun _ _ h => h) (hK9 _ _ _ _ _ ?_))
     clear hK9
     refine hQ.ret (rvs1 (rv_t rfl)) (fun _ _ h => h) fun w hb hs hB hkd => ?_
     exact ⟨by rw [enough_no hk1 (by omega) hc24], hb⟩
    ·refine wp_skip' (to_k0 (fun _ _ h => h) (hK7 _ _ _ _ _ ?_))
     clear hK7
     refine wp_reg ?_
     refine ol_r (r_move rfl) rfl ?_
     refine ol_r (r_add rfl rfl (by omega)) rfl ?_
     refine ol_r (r_assign rfl) rfl ?_
     refine ol_nil (to_k0 (fun _ _ h => h) (hK4 (k + 1) _ _ ?_ ?_ (sub_cons rfl sub_nil) (sub_cons rfl (sub_cons rfl (sub_cons rfl (sub_cons rfl sub_nil)))) (by exact subH_nil) subH_nil))
     ·try dsimp only
      refine ⟨by omega, by omega, fun x a b => ?_⟩
      by_cases hxk : x < k
      · exact hP x a hxk
      · obtain rfl : x = k := by omega
        omega
     ·try dsimp only
      omega
   ·refine wp_exit' (to_k0 (fun _ _ h => h) (hK2 _ _ _ _ _ ?_))
    clear hK2
    refine wp_seq' fun K10 hK10 => ?_
    refine wp_reg ?_
    refine ol_r (r_assign rfl) rfl ?_
    refine ol_nil (to_k0 (fun _ _ h => h) (hK10 _ _ _ _ _ ?_))
    clear hK10
    refine hQ.ret (rvs1 (rv_t rfl)) (fun _ _ h => h) fun w hb hs hB hkd => ?_
    exact ⟨by rw [enoughB_iff.2 fun x a b => hP x a (by omega)], hb⟩
/-- What the chain captures. -/
structure NextOk (ss : List SmpR) (M : Int) (n : Nat) (b10 b7 : Nat) (al : Option Addr) (c : Nat) (w : World) : Prop where
  cn : Blk w.heap.size w b7 [(0, .int .i64 n)]
  cl : Blk w.heap.size w b10 [(0, .slice al n c)]
  r : Rd encI w.heap.size w al n c (tab ss.length (nextF (enoughB ss M) ss.length (ss.length - 1)))
  len : ss.length = n ∧ n ≤ 300
theorem NextOk.at {ss : List SmpR} {M : Int} {n b10 b7 : Nat} {al : Option Addr} {c : Nat} {w w1 : World} (h : NextOk ss M n b10 b7 al c w) (hb : Below w.heap.size w w1) (hB : w.heap.size ≤ w1.heap.size) : NextOk ss M n b10 b7 al c w1 :=
  ⟨h.cn.at hb hB, h.cl.at hb hB, h.r.at hb hB, h.len⟩
theorem few_next (ss : List SmpR) (M : Int) (n b10 b7 : Nat) (al : Option Addr) (c i : Nat) (w : World) (h : NextOk ss M n b10 b7 al c w) (hi : i < ss.length) :
    Calls Try.prog 62 #[.int .i64 i, .pointer (some ⟨b10, 0, none⟩), .pointer (some ⟨b7, 0, none⟩)] w fun e w' =>
      e = .returned (.tuple #[.int .i64 (nxN ss M i), .bool (decide (i + 1 < ss.length))]) ∧ Below w.heap.size w w' := by
  have h7 := h.cn
  have h8 := h.cl
  have hr := h.r
  obtain ⟨hn, hn3⟩ := h.len
  refine enterQ (N := 14) (C := fun _ => True) (H := []) (B := w.heap.size) (args := [_, _, _]) Try.func62 rfl rfl rfl (Nat.le_refl _) (Sat.nil _ _) fun Q hQ => ?_
  refine wp_seq' fun K1 hK1 => ?_
  refine wp_reg ?_
  refine ol_r (r_assign rfl) rfl ?_
  refine ol_r (r_assign rfl) rfl ?_
  refine ol_nil (to_k0 (fun _ _ h => h) (hK1 _ _ _ _ _ ?_))
  clear hK1
  refine wp_seq' fun K2 hK2 => ?_
  refine wp_regq (by kernel_rfl) (by kernel_rfl) ?_
  refine ql_r (r_ldw rfl (fun w1 hb1 hs1 hB1 => Blk.loads (o := 0) h8 hb1 sc37 rfl)) rfl ?_
  refine ql_r (r_move rfl) rfl ?_
  refine ql_ixr hr rfl rfl sl37 (by omega) rfl fun x8 hx8 => ?_
  try simp only [Int.toNat_natCast] at hx8
  refine ql_r (r_ldw rfl (fun w1 hb1 hs1 hB1 => show Loads _ _ _ _ (.int .i64 x8) from Rd.loads hr ty3 hx8 hb1)) rfl ?_
  refine ql_r (r_move rfl) rfl ?_
  refine ql_r (r_ldw rfl (fun w1 hb1 hs1 hB1 => Blk.loads (o := 0) h7 hb1 sc3 rfl)) rfl ?_
  refine ql_r (r_sub rfl rfl (by omega)) rfl ?_
  refine ql_r (r_lss rfl rfl) rfl ?_
  refine ql_r (r_assign rfl) rfl ?_
  refine ql_r (r_assign rfl) rfl ?_
  refine ql_nil (to_k0 (fun _ _ h => h) (hK2 _ _ _ _ _ ?_))
  clear hK2
  refine hQ.ret (rvs2 (rv_t rfl) (rv_t rfl)) (fun _ _ h => h) fun w hb hs hB hkd => ?_
  have h8 := (tab_get hx8).2
  rw [nx_is hi] at h8
  have e2 : decide ((i : Int) < (n : Int) - 1) = decide (i + 1 < ss.length) := by
    rw [decide_eq_decide]; omega
  exact ⟨by rw [h8, e2], hb⟩
theorem chain_few (ss : List SmpR) (M : Int) (n b10 b7 : Nat) (al : Option Addr) (c : Nat) (w : World) (h : NextOk ss M n b10 b7 al c w) :
    Calls Try.prog 61 #[.int .i64 0, .int .i64 ((n : Int) - 1), .func (.func 62) #[] #[.pointer (some ⟨b10, 0, none⟩), .pointer (some ⟨b7, 0, none⟩)]] w fun e w' =>
      ∃ b m k, e = .returned (.slice b m k) ∧ Fresh encI 3 w w' b m k (chainF (enoughB ss M) ss.length (ss.length + 1) 0) := by
  obtain ⟨hn, hn3⟩ := h.len
  refine enterQ (N := 24) (C := fun _ => True) (H := []) (B := w.heap.size) (args := [_, _, _]) Try.func61 rfl rfl rfl (Nat.le_refl _) (Sat.nil _ _) fun Q hQ => ?_
  refine wp_seq' fun K1 hK1 => ?_
  refine wp_reg ?_
  refine ol_r (r_assign rfl) rfl ?_
  refine ol_nil (to_k0 (fun _ _ h => h) (hK1 _ _ _ _ _ ?_))
  clear hK1
  refine wp_seq' fun K2 hK2 => ?_
  refine wp_reg ?_
  refine ol_nilrow 7 3 1 ?_
  refine ol_r (r_assign rfl) rfl ?_
  refine ol_nil (to_k0 (fun _ _ h => h) (hK2 _ _ _ _ _ ?_))
  clear hK2
  refine wp_seq' fun K3 hK3 => ?_
  refine wp_seq' fun K4 hK4 => ?_
  refine wp_reg ?_
  refine ol_r (r_move rfl) rfl ?_
  refine ol_r (r_move rfl) rfl ?_
  refine ol_r (r_leq rfl rfl) rfl ?_
  refine ol_r (r_assign rfl) rfl ?_
  refine ol_nil (to_k0 (fun _ _ h => h) (hK4 _ _ _ _ _ ?_))
  clear hK4
  refine wp_block' ?_
  apply wp_loopM (σ := List Int × Nat × Bool × Nat × Option Addr × Nat) (fun s => s.1.length = s.2.2.2.1 ∧ s.2.2.2.1 ≤ ss.length ∧ (s.2.2.1 = true → s.2.2.2.1 ≤ s.2.1 ∧ s.2.1 < ss.length) ∧ ∃ f, (s.2.2.1 = true → ss.length ≤ s.2.1 + f) ∧ s.1 ++ (if s.2.2.1 = true then chainF (enoughB ss M) ss.length f s.2.1 else []) = chainF (enoughB ss M) ss.length (ss.length + 1) 0) (fun s => [(0, .int .i64 s.2.1), (8, .bool s.2.2.1), (7, .slice s.2.2.2.2.1 s.2.2.2.1 s.2.2.2.2.2)]) [(2, _), (6, _)] (fun s => [(7, .row s.2.2.2.2.1 s.2.2.2.1 s.2.2.2.2.2 (encI.enc s.1) 3 1)]) [] (fun s => if s.2.2.1 = true then ss.length + 1 - s.2.1 else 0) (([], 0, decide (0 < ss.length), 0, none, 0))
  ·try dsimp only
   refine ⟨rfl, Nat.zero_le _, fun hq => ⟨Nat.zero_le _, of_decide_eq_true hq⟩, ss.length + 1, fun _ => by omega, ?_⟩
   by_cases hq : 0 < ss.length
   · rw [if_pos (decide_eq_true hq)]; rfl
   · rw [if_neg (by rw [decide_eq_false hq]; decide), chainF_stop (by omega)]; rfl
  ·exact (sub_cons (by first | rfl | (first | rfl | (rw [show decide ((0 : Int) ≤ (n : Int) - 1) = decide (0 < ss.length) by rw [decide_eq_decide]; omega]; rfl))) (sub_cons (by first | rfl | (first | rfl | (rw [show decide ((0 : Int) ≤ (n : Int) - 1) = decide (0 < ss.length) by rw [decide_eq_decide]; omega]; rfl))) (sub_cons (by first | rfl | (first | rfl | (rw [show decide ((0 : Int) ≤ (n : Int) - 1) = decide (0 < ss.length) by rw [decide_eq_decide]; omega]; rfl))) sub_nil)))
  ·exact (sub_cons rfl (sub_cons rfl sub_nil))
  ·exact (subH_row rfl (by dsimp only; rfl) subH_nil)
  ·exact subH_nil
  ·rintro ⟨ys, i, mo, cnt, oa, oc⟩ ⟨hcnt, hcn, hmo, f, hf, hT⟩
   dsimp only at hcnt hcn hmo hf hT ⊢
   intro K5 hK5
   refine wp_seq' fun K6 hK6 => ?_
   refine wp_seq' fun K7 hK7 => ?_
   refine wp_reg ?_
   refine ol_r (r_move rfl) rfl ?_
   refine ol_nil (to_k0 (fun _ _ h => h) (hK7 _ _ _ _ _ ?_))
   clear hK7
   refine wp_cond' rfl (fun hc12 => ?_) (fun hc12 => ?_)
   ·refine wp_skip' (to_k0 (fun _ _ h => h) (hK6 _ _ _ _ _ ?_))
    clear hK6
    refine wp_block' ?_
    refine wp_seq' fun K8 hK8 => ?_
    refine wp_reg ?_
    obtain ⟨g1, g2⟩ := hmo hc12
    have hf1 := hf hc12
    obtain ⟨f', rfl⟩ : ∃ f', f = f' + 1 := ⟨f - 1, by omega⟩
    rw [if_pos hc12, chain_next g2] at hT
    refine ol_r (r_move rfl) rfl ?_
    refine ol_r (r_move rfl) rfl ?_
    refine ol_bs1 15 rfl rfl rw37 rfl rfl rfl fun a15 => ?_
    refine ol_append1 (id := 7) (id2 := 15) rfl rfl rfl rfl rfl rw37 (by omega) rfl fun a16 c16 => ?_
    refine ol_r (r_assign rfl) rfl ?_
    refine ol_nil (to_k0 (fun _ _ h => h) (hK8 _ _ _ _ _ ?_))
    clear hK8
    refine wp_reg ?_
    refine ol_r (r_move rfl) rfl ?_
    refine ol_r (r_move rfl) rfl ?_
    refine ol_call rfl rfl cb62 rfl (fun w1 hb1 hs1 hB1 => Calls.mono (few_next ss M n b10 b7 al c i _ (h.at hb1 hB1) g2) ?_)
    rintro e w2 ⟨rfl, hb2⟩
    refine After.below rfl hb1 hs1 hB1 hb2 ?_
    clear hb2 hB1 hs1 hb1 w2 w1
    refine ol_r (r_move rfl) rfl ?_
    refine ol_r (r_extract rfl rfl) rfl ?_
    refine ol_r (r_extract rfl rfl) rfl ?_
    refine ol_r (r_assign rfl) rfl ?_
    refine ol_r (r_assign rfl) rfl ?_
    refine ol_nil (to_k0 (fun _ _ h => h) (hK5 ((ys ++ [(i : Int)], nxN ss M i, decide (i + 1 < ss.length), _, _, _)) _ _ ?_ ?_ (sub_cons rfl (sub_cons rfl (sub_cons rfl sub_nil))) (sub_cons rfl (sub_cons rfl sub_nil)) (by exact (subH_row rfl (by dsimp only; rw [Enc.enc_append]; rfl) subH_nil)) subH_nil))
    ·try dsimp only
     refine ⟨by simp [hcnt], by omega, fun h1 => ?_, f', fun h1 => ?_, ?_⟩
     · have h2 := nx_bd (M := M) (of_decide_eq_true h1)
       omega
     · have h2 := nx_bd (M := M) (of_decide_eq_true h1)
       omega
     · by_cases h2 : i + 1 < ss.length
       · rw [if_pos (decide_eq_true h2)]
         rw [if_pos h2] at hT
         rw [← hT, List.append_assoc]; rfl
       · rw [if_neg (by rw [decide_eq_false h2]; decide)]
         rw [if_neg h2] at hT
         rw [← hT]; simp
    ·try dsimp only
     rw [if_pos hc12]
     by_cases h2 : i + 1 < ss.length
     · have h3 := nx_bd (M := M) h2
       rw [if_pos (decide_eq_true h2)]; omega
     · rw [if_neg (by rw [decide_eq_false h2]; decide)]; omega
   ·refine wp_exit' (to_k0 (fun _ _ h => h) (hK3 _ _ _ _ _ ?_))
    clear hK3
    refine wp_seq' fun K9 hK9 => ?_
    refine wp_reg ?_
    refine ol_r (r_move rfl) rfl ?_
    refine ol_r (r_assign rfl) rfl ?_
    refine ol_nil (to_k0 (fun _ _ h => h) (hK9 _ _ _ _ _ ?_))
    clear hK9
    refine hQ.ret (rvs1 (rv_t rfl)) (fun _ _ h => h) fun w hb hs hB hkd => ?_
    rw [if_neg (by rw [hc12]; decide), List.append_nil] at hT
    exact ⟨_, _, _, rfl, hb, by rw [← hT]; exact hs.ok 7 _ rfl⟩
theorem track_Fewest (A : ActV) (most : Int) (w : World) (hA : A.Ok w.heap.size w) :
    Calls Try.prog 19 #[.agg #[.string A.name, .int .i64 A.sport, .int .i64 A.start, .slice A.sa A.sn A.sc, .slice A.la A.ln A.lc, .slice A.ta A.tn A.tc], .int .i64 most] w fun e w' => ∃ b m k, e = .returned (.tuple #[.slice b m k, .int .i64 (fewestR A.d most).2]) ∧ Fresh encI 3 w w' b m k (fewestR A.d most).1 := by
  have hsn := hA.s.len
  have hsf := hA.s.fit
  refine enterQ (N := 76) (C := fun _ => True) (H := []) (B := w.heap.size) (args := [_, _]) Try.func19 rfl rfl rfl (Nat.le_refl _) (Sat.nil _ _) fun Q hQ => ?_
  refine wp_seq' fun K1 hK1 => ?_
  refine wp_reg ?_
  refine ol_box 2 rfl rfl rfl fun b2 => ?_
  refine ol_box 3 rfl rfl rfl fun b3 => ?_
  refine ol_r (r_assign rfl) rfl ?_
  refine ol_r (r_assign rfl) rfl ?_
  refine ol_nil (to_k0 (fun _ _ h => h) (hK1 _ _ _ _ _ ?_))
  clear hK1
  refine wp_seq' fun K2 hK2 => ?_
  refine wp_seq' fun K3 hK3 => ?_
  refine wp_reg ?_
  refine ol_r (r_lda (id := 2) (n := 6) rfl rfl rfl ag26) rfl ?_
  refine ol_r (r_ld (id := 3) rfl rfl rfl sc3) rfl ?_
  refine ol_call rfl rfl cb56 rfl (fun w1 hb1 hs1 hB1 => Calls.mono (track_checkFewer A most 300 _ (hA.at hb1 hB1)) ?_)
  rintro e w2 ⟨rfl, hb2⟩
  refine After.below rfl hb1 hs1 hB1 hb2 ?_
  clear hb2 hB1 hs1 hb1 w2 w1
  refine ol_r (r_assign rfl) rfl ?_
  refine ol_nil (to_k0 (fun _ _ h => h) (hK3 _ _ _ _ _ ?_))
  clear hK3
  refine wp_seq' fun K4 hK4 => ?_
  refine wp_reg ?_
  refine ol_r (r_move rfl) rfl ?_
  refine ol_r (r_neq rfl rfl) rfl ?_
  refine ol_nil (to_k0 (fun _ _ h => h) (hK4 _ _ _ _ _ ?_))
  clear hK4
  refine wp_condD rfl (fun hc17 => ?_) (fun hc17 => ?_)
  ·refine wp_seq' fun K5 hK5 => ?_
   refine wp_reg ?_
   refine ol_r (r_move rfl) rfl ?_
   refine ol_r (r_assign rfl) rfl ?_
   refine ol_r (r_assign rfl) rfl ?_
   refine ol_nil (to_k0 (fun _ _ h => h) (hK5 _ _ _ _ _ ?_))
   clear hK5
   refine hQ.ret (rvs2 (rv_t rfl) (rv_t rfl)) (fun _ _ h => h) fun w hb hs hB hkd => ?_
   have h := fewestR_e (a := A.d) hc17
   exact ⟨none, 0, 0, by rw [h], by rw [h]; exact Fresh.nil hb⟩
  ·refine wp_skip' (to_k0 (fun _ _ h => h) (hK2 _ _ _ _ _ ?_))
   clear hK2
   refine wp_seq' fun K6 hK6 => ?_
   refine wp_reg ?_
   obtain ⟨h0, hmost, hlen⟩ := fewErr_inv (Decidable.not_not.1 hc17)
   dsimp only [ActV.d] at hlen
   have hok : SmpOk A.start A.ss := (goodA h0).smp
   have hEn := fun i => enoughB_next A.ss (most * most) i
   try simp only [Int.toNat_natCast]
   refine ol_r (r_fa (o' := 3) rfl fl26_3 rfl) rfl ?_
   refine ol_r (r_ld (id := 2) rfl rfl rfl sc22) rfl ?_
   refine ol_r (r_len rfl sl22) rfl ?_
   refine ol_alloc 7 z3 rfl fun b7 => ?_
   refine ol_store (id := 7) rfl rfl rfl rfl sz3 rfl rfl (by first | decide | exact Nat.zero_lt_succ _ | simp) ?_
   refine ol_nil (to_k0 (fun _ _ h => h) (hK6 _ _ _ _ _ ?_))
   clear hK6
   refine wp_seq' fun K7 hK7 => ?_
   refine wp_reg ?_
   refine ol_r (r_func rfl) rfl ?_
   refine ol_r (r_assign rfl) rfl ?_
   refine ol_nil (to_k0 (fun _ _ h => h) (hK7 _ _ _ _ _ ?_))
   clear hK7
   refine wp_seq' fun K8 hK8 => ?_
   refine wp_reg ?_
   refine ol_r (r_ld (id := 7) rfl rfl rfl sc3) rfl ?_
   refine ol_make encI (0) 24 rfl rfl rw37 z3 rfl rfl (by omega) rfl fun a24 => ?_
   refine ol_r (r_assign rfl) rfl ?_
   refine ol_nil (to_k0 (fun _ _ h => h) (hK8 _ _ _ _ _ ?_))
   clear hK8
   refine wp_seq' fun K9 hK9 => ?_
   refine wp_reg ?_
   refine ol_r (r_ld (id := 7) rfl rfl rfl sc3) rfl ?_
   refine ol_make encI (0) 26 rfl rfl rw37 z3 rfl rfl (by omega) rfl fun a26 => ?_
   refine ol_alloc 10 z37 rfl fun b10 => ?_
   refine ol_store (id := 10) rfl rfl rfl rfl sz37 rfl rfl (by first | decide | exact Nat.zero_lt_succ _ | simp) ?_
   refine ol_nil (to_k0 (fun _ _ h => h) (hK9 _ _ _ _ _ ?_))
   clear hK9
   refine wp_seq' fun K10 hK10 => ?_
   refine wp_seq' fun K11 hK11 => ?_
   refine wp_reg ?_
   refine ol_r (r_ld (id := 7) rfl rfl rfl sc3) rfl ?_
   refine ol_r (r_sub rfl rfl (by omega)) rfl ?_
   refine ol_r (r_assign rfl) rfl ?_
   refine ol_nil (to_k0 (fun _ _ h => h) (hK11 _ _ _ _ _ ?_))
   clear hK11
   refine wp_block' ?_
   apply wp_loopM (σ := Int × Nat) (fun s => s.1 = (A.ss.length : Int) - 2 - s.2 ∧ s.2 ≤ A.ss.length - 1) (fun s => [(11, .int .i64 s.1)]) [(4, _), (5, _), (7, _), (8, _), (9, _), (10, _)] (fun s => [(24, .row a24 A.sn A.sn (encI.enc (tab A.ss.length (manyL (enoughB A.ss (most * most)) A.ss.length s.2))) 3 1), (26, .row a26 A.sn A.sn (encI.enc (tab A.ss.length (nextF (enoughB A.ss (most * most)) A.ss.length s.2))) 3 1)]) [(2, _), (3, _), (7, _), (10, _)] (fun s => A.ss.length - s.2) (((A.sn : Int) - 2, 0))
   ·try dsimp only
    exact ⟨by omega, Nat.zero_le _⟩
   ·exact (sub_cons rfl sub_nil)
   ·exact (sub_cons rfl (sub_cons rfl (sub_cons rfl (sub_cons rfl (sub_cons rfl (sub_cons rfl sub_nil))))))
   ·exact (subH_row rfl (by dsimp only; first | rfl | (rw [← hsn, tab_zero]; rfl)) (subH_row rfl (by dsimp only; first | rfl | (rw [← hsn, tab_zero]; rfl)) subH_nil))
   ·exact (subH_same rfl (subH_same rfl (subH_same rfl (subH_same rfl subH_nil))))
   ·rintro ⟨i, m⟩ ⟨hi, hm⟩
    dsimp only at hi hm ⊢
    intro K12 hK12
    refine wp_seq' fun K13 hK13 => ?_
    refine wp_seq' fun K14 hK14 => ?_
    refine wp_reg ?_
    refine ol_r (r_move rfl) rfl ?_
    refine ol_r (r_geq rfl rfl) rfl ?_
    refine ol_nil (to_k0 (fun _ _ h => h) (hK14 _ _ _ _ _ ?_))
    clear hK14
    refine wp_condD rfl (fun hc30 => ?_) (fun hc30 => ?_)
    ·refine wp_skip' (to_k0 (fun _ _ h => h) (hK13 _ _ _ _ _ ?_))
     clear hK13
     refine wp_seq' fun K15 hK15 => ?_
     refine wp_block' ?_
     refine wp_seq' fun K16 hK16 => ?_
     refine wp_reg ?_
     obtain ⟨iN, hiN⟩ := Int.eq_ofNat_of_zero_le (show 0 ≤ i by omega)
     subst hiN
     have hmn : m + 1 < A.ss.length := by omega
     have hmi : A.ss.length - 2 - m = iN := by omega
     refine ol_r (r_move rfl) rfl ?_
     refine ol_r (r_move rfl) rfl ?_
     refine ol_r (r_ld (id := 7) rfl rfl rfl sc3) rfl ?_
     refine ol_ixo (id := 24) encI _ rfl rfl rfl rfl sl37 (by omega) rfl fun x36 hx36 => ?_
     try simp only [Int.toNat_natCast] at hx36
     try simp only [Int.toNat_natCast] at hx36
     refine ol_storeRow (id := 24) _ _ _ rfl rfl rfl rfl sz3 (by omega) ?_
     refine ol_nil (to_k0 (fun _ _ h => h) (hK16 _ _ _ _ _ ?_))
     clear hK16
     refine wp_seq' fun K17 hK17 => ?_
     refine wp_reg ?_
     refine ol_r (r_move rfl) rfl ?_
     refine ol_r (r_add rfl rfl (by omega)) rfl ?_
     refine ol_r (r_assign rfl) rfl ?_
     refine ol_nil (to_k0 (fun _ _ h => h) (hK17 _ _ _ _ _ ?_))
     clear hK17
     refine wp_block' ?_
     apply wp_loopM (σ := Nat) (fun s => iN + 1 ≤ s ∧ s ≤ A.ss.length) (fun s => [(12, .int .i64 s)]) [(4, _), (5, _), (7, _), (8, _), (9, _), (10, _), (11, _)] (fun s => [(24, .row a24 A.sn A.sn (encI.enc (tab A.ss.length (mmL (enoughB A.ss (most * most)) A.ss.length m (s - (iN + 1))))) 3 1), (26, .row a26 A.sn A.sn (encI.enc (tab A.ss.length (nnL (enoughB A.ss (most * most)) A.ss.length m (s - (iN + 1))))) 3 1)]) [(2, _), (3, _), (7, _), (10, _)] (fun s => A.ss.length - s) (iN + 1)
     ·try dsimp only
      exact ⟨Nat.le_refl _, by omega⟩
     ·exact (sub_cons rfl sub_nil)
     ·exact (sub_cons rfl (sub_cons rfl (sub_cons rfl (sub_cons rfl (sub_cons rfl (sub_cons rfl (sub_cons rfl sub_nil)))))))
     ·exact (subH_row rfl (by first | (dsimp only; first | (rw [Int.toNat_natCast, ← hsn]; exact congrArg encI.enc (mm_zero hmi hmn).symm) | exact congrArg encI.enc (nn_zero hmi hmn).symm; done) | (first | (rw [Int.toNat_natCast, ← hsn]; exact congrArg encI.enc (mm_zero hmi hmn).symm) | exact congrArg encI.enc (nn_zero hmi hmn).symm; done) | (dsimp only; done)) (subH_row rfl (by first | (rw [Int.toNat_natCast, ← hsn]; exact congrArg encI.enc (mm_zero hmi hmn).symm) | exact congrArg encI.enc (nn_zero hmi hmn).symm) subH_nil))
     ·exact (subH_same rfl (subH_same rfl (subH_same rfl (subH_same rfl subH_nil))))
     ·rintro k ⟨hk1, hk2⟩
      intro K18 hK18
      refine wp_seq' fun K19 hK19 => ?_
      refine wp_seq' fun K20 hK20 => ?_
      refine wp_reg ?_
      refine ol_r (r_move rfl) rfl ?_
      refine ol_r (r_ld (id := 7) rfl rfl rfl sc3) rfl ?_
      refine ol_r (r_lss rfl rfl) rfl ?_
      refine ol_nil (to_k0 (fun _ _ h => h) (hK20 _ _ _ _ _ ?_))
      clear hK20
      refine wp_condD rfl (fun hc41 => ?_) (fun hc41 => ?_)
      ·refine wp_skip' (to_k0 (fun _ _ h => h) (hK19 _ _ _ _ _ ?_))
       clear hK19
       refine wp_seq' fun K21 hK21 => ?_
       refine wp_block' ?_
       refine wp_seq' fun K22 hK22 => ?_
       refine wp_regq (by kernel_rfl) (by kernel_rfl) ?_
       have htl := tab_len A.ss.length (mmL (enoughB A.ss (most * most)) A.ss.length m (k - (iN + 1)))
       have htl2 := tab_len A.ss.length (nnL (enoughB A.ss (most * most)) A.ss.length m (k - (iN + 1)))
       refine ql_r (r_move rfl) rfl ?_
       refine ql_r (r_move rfl) rfl ?_
       refine ql_ixo (id := 24) encI _ rfl rfl rfl rfl sl37 (by omega) (by omega) rfl fun x46 hx46 => ?_
       try simp only [Int.toNat_natCast] at hx46
       try simp only [Int.toNat_natCast] at hx46
       refine ql_r (r_ldw rfl (fun w1 hb1 hs1 hB1 => show Loads _ _ _ _ (.int .i64 x46) from ld_own (id := 24) hs1 rfl rfl ty3 hx46)) rfl ?_
       have h46 := (tab_get hx46).2
       rw [mm_ne (by omega)] at h46
       have hmb := manyL_bd (en := enoughB A.ss (most * most)) (n := A.ss.length) m k
       refine ql_r (r_add rfl rfl (by omega)) rfl ?_
       refine ql_r (r_move rfl) rfl ?_
       refine ql_r (r_move rfl) rfl ?_
       refine ql_ixo (id := 24) encI _ rfl rfl rfl rfl sl37 (by omega) (by omega) rfl fun x51 hx51 => ?_
       try simp only [Int.toNat_natCast] at hx51
       try simp only [Int.toNat_natCast] at hx51
       refine ql_r (r_ldw rfl (fun w1 hb1 hs1 hB1 => show Loads _ _ _ _ (.int .i64 x51) from ld_own (id := 24) hs1 rfl rfl ty3 hx51)) rfl ?_
       have h51 := (tab_get hx51).2
       rw [mm_eq hmi] at h51
       refine ql_r (r_lss rfl rfl) rfl ?_
       refine ql_r (r_move rfl) rfl ?_
       refine ql_split (d := 54) rfl (fun hs54 => ?_) (fun hs54 => ?_)
       ·have phs54 := hs54; try simp only [decide_eq_true_eq, decide_eq_false_iff_not, Bool.not_eq_true', Bool.not_eq_false', Bool.not_true, Bool.not_false] at phs54
        refine ql_g rfl rfl hs54 ?_
        refine ql_r (r_move rfl) rfl ?_
        refine ql_g rfl rfl hs54 ?_
        refine ql_r (r_move rfl) rfl ?_
        refine ql_g rfl rfl hs54 ?_
        refine ql_r (r_move rfl) rfl ?_
        refine ql_g rfl rfl hs54 ?_
        refine ql_call rfl rfl cb60 rfl (fun w1 hb1 hs1 hB1 => few_enough A most b2 b3 iN k _ ⟨hs1.blk (id := 2) rfl, hs1.blk (id := 3) rfl, hA.at hb1 hB1, hok, hmost⟩ (by omega) (by omega)) ?_
        refine ql_r (r_pickT rfl hs54 rfl) rfl ?_
        refine ql_nil (to_k0 (fun _ _ h => h) (hK22 _ _ _ _ _ ?_))
        clear hK22
        refine wp_cond' rfl (fun hc59 => ?_) (fun hc59 => ?_)
        ·refine wp_rega [(999, [(2, _), (3, _), (7, _), (10, _)]), (11, [(24, _)]), (13, [(26, _)])] (by kernel_rfl) ⟨.inr (subH_same rfl (subH_same rfl (subH_same rfl (subH_same rfl subH_nil)))), ⟨.inr (subH_same rfl subH_nil), ⟨.inr (subH_same rfl subH_nil), trivial⟩⟩⟩ ?_
         refine aq_r 0 999 rfl (by kernel_rfl) (by kernel_rfl) (by kernel_rfl) (.head _) (by kernel_rfl) (by kernel_rfl) rfl (r_move rfl) ?_
         refine aq_r 1 999 rfl (by kernel_rfl) (by kernel_rfl) (by kernel_rfl) (.head _) (by kernel_rfl) (by kernel_rfl) rfl (r_move rfl) ?_
         refine aq_r 2 999 rfl (by kernel_rfl) (by kernel_rfl) (by kernel_rfl) (.head _) (by kernel_rfl) (by kernel_rfl) rfl (r_ld (id := 10) rfl rfl rfl sc37) ?_
         refine aq_r 3 999 rfl (by kernel_rfl) (by kernel_rfl) (by kernel_rfl) (.head _) (by kernel_rfl) (by kernel_rfl) rfl (r_move rfl) ?_
         refine aq_r 4 999 rfl (by kernel_rfl) (by kernel_rfl) (by kernel_rfl) (.head _) (by kernel_rfl) (by kernel_rfl) rfl (r_move rfl) ?_
         refine aq_r 5 999 rfl (by kernel_rfl) (by kernel_rfl) (by kernel_rfl) (.head _) (by kernel_rfl) (by kernel_rfl) rfl (r_move rfl) ?_
         refine aq_ixo 6 11 rfl (by kernel_rfl) (by kernel_rfl) (by kernel_rfl) (.tail _ (.head _)) (by kernel_rfl) (by kernel_rfl) rfl (id := 24) encI _ rfl rfl rfl rfl sl37 (by omega) (by omega) fun x66 hx66 => ?_
         try simp only [Int.toNat_natCast] at hx66
         try simp only [Int.toNat_natCast] at hx66
         refine aq_r 7 11 rfl (by kernel_rfl) (by kernel_rfl) (by kernel_rfl) (.tail _ (.head _)) (by kernel_rfl) (by kernel_rfl) rfl (r_ldw rfl (fun w1 hb1 hs1 hB1 => show Loads _ _ _ _ (.int .i64 x66) from ld_own (id := 24) hs1 rfl rfl ty3 hx66)) ?_
         have h66 := (tab_get hx66).2
         rw [mm_ne (by omega)] at h66
         refine aq_r 8 999 rfl (by kernel_rfl) (by kernel_rfl) (by kernel_rfl) (.head _) (by kernel_rfl) (by kernel_rfl) rfl (r_add rfl rfl (by omega)) ?_
         refine aq_r 9 999 rfl (by kernel_rfl) (by kernel_rfl) (by kernel_rfl) (.head _) (by kernel_rfl) (by kernel_rfl) rfl (r_move rfl) ?_
         refine aq_ixo 10 11 rfl (by kernel_rfl) (by kernel_rfl) (by kernel_rfl) (.tail _ (.head _)) (by kernel_rfl) (by kernel_rfl) rfl (id := 24) encI _ rfl rfl rfl rfl sl37 (by omega) (by omega) fun x70 hx70 => ?_
         try simp only [Int.toNat_natCast] at hx70
         try simp only [Int.toNat_natCast] at hx70
         refine aq_one (i := 11) (by kernel_rfl) rfl fun K23 hK23 => ?_
         refine ol_storeRow (id := 24) _ _ _ rfl rfl rfl rfl sz3 (by omega) ?_
         refine ol_nil (to_k0 (fun _ _ h => h) (hK23 _ _ ⟨.inr (by repeat' first | exact subH_nil | refine subH_same rfl ?_ | (refine subH_blk rfl (by repeat' first | exact sub_nil | refine sub_cons rfl ?_) ?_)), ⟨.inl (by kernel_rfl), ⟨.inr (by repeat' first | exact subH_nil | refine subH_same rfl ?_ | (refine subH_blk rfl (by repeat' first | exact sub_nil | refine sub_cons rfl ?_) ?_)), trivial⟩⟩⟩ ?_))
         clear hK23
         refine aq_ixo 12 13 rfl (by kernel_rfl) (by kernel_rfl) (by kernel_rfl) (.tail _ (.tail _ (.head _))) (by kernel_rfl) (by kernel_rfl) rfl (id := 26) encI _ rfl rfl rfl rfl sl37 (by omega) (by omega) fun x71 hx71 => ?_
         try simp only [Int.toNat_natCast] at hx71
         try simp only [Int.toNat_natCast] at hx71
         refine aq_one (i := 13) (by kernel_rfl) rfl fun K24 hK24 => ?_
         refine ol_storeRow (id := 26) _ _ _ rfl rfl rfl rfl sz3 (by omega) ?_
         refine ol_nil (to_k0 (fun _ _ h => h) (hK24 _ _ ⟨.inr (by repeat' first | exact subH_nil | refine subH_same rfl ?_ | (refine subH_blk rfl (by repeat' first | exact sub_nil | refine sub_cons rfl ?_) ?_)), ⟨.inl (by kernel_rfl), ⟨.inl (by kernel_rfl), trivial⟩⟩⟩ ?_))
         clear hK24
         refine aq_done (by kernel_rfl) ?_
         refine (to_k0 (fun _ _ h => h) (hK21 _ _ _ _ _ ?_))
         clear hK21
         refine wp_reg ?_
         refine ol_r (r_move rfl) rfl ?_
         refine ol_r (r_add rfl rfl (by omega)) rfl ?_
         refine ol_r (r_assign rfl) rfl ?_
         refine ol_nil (to_k0 (fun _ _ h => h) (hK18 (k + 1) _ _ ?_ ?_ (sub_cons rfl sub_nil) (sub_cons rfl (sub_cons rfl (sub_cons rfl (sub_cons rfl (sub_cons rfl (sub_cons rfl (sub_cons rfl sub_nil))))))) (by exact (subH_row rfl (by first | (dsimp only; first | (rw [Int.toNat_natCast, h66]; exact congrArg encI.enc (mm_yes hmi hmn hk1 (by omega) hc59).symm) | (rw [Int.toNat_natCast]; exact congrArg encI.enc (nn_yes hmi hmn hk1 (by omega) hc59).symm) | exact congrArg encI.enc (mm_no hmi hk1 (fun h => by have := h.1; omega)).symm | exact congrArg encI.enc (nn_no hmi hk1 (fun h => by have := h.1; omega)).symm | exact congrArg encI.enc (mm_no hmi hk1 (fun h => absurd (h.2.symm.trans hc59) (by decide))).symm | exact congrArg encI.enc (nn_no hmi hk1 (fun h => absurd (h.2.symm.trans hc59) (by decide))).symm; done) | (first | (rw [Int.toNat_natCast, h66]; exact congrArg encI.enc (mm_yes hmi hmn hk1 (by omega) hc59).symm) | (rw [Int.toNat_natCast]; exact congrArg encI.enc (nn_yes hmi hmn hk1 (by omega) hc59).symm) | exact congrArg encI.enc (mm_no hmi hk1 (fun h => by have := h.1; omega)).symm | exact congrArg encI.enc (nn_no hmi hk1 (fun h => by have := h.1; omega)).symm | exact congrArg encI.enc (mm_no hmi hk1 (fun h => absurd (h.2.symm.trans hc59) (by decide))).symm | exact congrArg encI.enc (nn_no hmi hk1 (fun h => absurd (h.2.symm.trans hc59) (by decide))).symm; done) | (dsimp only; done)) (subH_row rfl (by first | (dsimp only; first | (rw [Int.toNat_natCast, h66]; exact congrArg encI.enc (mm_yes hmi hmn hk1 (by omega) hc59).symm) | (rw [Int.toNat_natCast]; exact congrArg encI.enc (nn_yes hmi hmn hk1 (by omega) hc59).symm) | exact congrArg encI.enc (mm_no hmi hk1 (fun h => by have := h.1; omega)).symm | exact congrArg encI.enc (nn_no hmi hk1 (fun h => by have := h.1; omega)).symm | exact congrArg encI.enc (mm_no hmi hk1 (fun h => absurd (h.2.symm.trans hc59) (by decide))).symm | exact congrArg encI.enc (nn_no hmi hk1 (fun h => absurd (h.2.symm.trans hc59) (by decide))).symm; done) | (first | (rw [Int.toNat_natCast, h66]; exact congrArg encI.enc (mm_yes hmi hmn hk1 (by omega) hc59).symm) | (rw [Int.toNat_natCast]; exact congrArg encI.enc (nn_yes hmi hmn hk1 (by omega) hc59).symm) | exact congrArg encI.enc (mm_no hmi hk1 (fun h => by have := h.1; omega)).symm | exact congrArg encI.enc (nn_no hmi hk1 (fun h => by have := h.1; omega)).symm | exact congrArg encI.enc (mm_no hmi hk1 (fun h => absurd (h.2.symm.trans hc59) (by decide))).symm | exact congrArg encI.enc (nn_no hmi hk1 (fun h => absurd (h.2.symm.trans hc59) (by decide))).symm; done) | (dsimp only; done)) subH_nil))) (subH_same rfl (subH_same rfl (subH_same rfl (subH_same rfl subH_nil))))))
         ·try dsimp only
          omega
         ·try dsimp only
          omega
        ·refine wp_skip' (to_k0 (fun _ _ h => h) (hK21 _ _ _ _ _ ?_))
         clear hK21
         refine wp_reg ?_
         refine ol_r (r_move rfl) rfl ?_
         refine ol_r (r_add rfl rfl (by omega)) rfl ?_
         refine ol_r (r_assign rfl) rfl ?_
         refine ol_nil (to_k0 (fun _ _ h => h) (hK18 (k + 1) _ _ ?_ ?_ (sub_cons rfl sub_nil) (sub_cons rfl (sub_cons rfl (sub_cons rfl (sub_cons rfl (sub_cons rfl (sub_cons rfl (sub_cons rfl sub_nil))))))) (by exact (subH_row rfl (by first | (dsimp only; first | (rw [Int.toNat_natCast, h66]; exact congrArg encI.enc (mm_yes hmi hmn hk1 (by omega) hc59).symm) | (rw [Int.toNat_natCast]; exact congrArg encI.enc (nn_yes hmi hmn hk1 (by omega) hc59).symm) | exact congrArg encI.enc (mm_no hmi hk1 (fun h => by have := h.1; omega)).symm | exact congrArg encI.enc (nn_no hmi hk1 (fun h => by have := h.1; omega)).symm | exact congrArg encI.enc (mm_no hmi hk1 (fun h => absurd (h.2.symm.trans hc59) (by decide))).symm | exact congrArg encI.enc (nn_no hmi hk1 (fun h => absurd (h.2.symm.trans hc59) (by decide))).symm; done) | (first | (rw [Int.toNat_natCast, h66]; exact congrArg encI.enc (mm_yes hmi hmn hk1 (by omega) hc59).symm) | (rw [Int.toNat_natCast]; exact congrArg encI.enc (nn_yes hmi hmn hk1 (by omega) hc59).symm) | exact congrArg encI.enc (mm_no hmi hk1 (fun h => by have := h.1; omega)).symm | exact congrArg encI.enc (nn_no hmi hk1 (fun h => by have := h.1; omega)).symm | exact congrArg encI.enc (mm_no hmi hk1 (fun h => absurd (h.2.symm.trans hc59) (by decide))).symm | exact congrArg encI.enc (nn_no hmi hk1 (fun h => absurd (h.2.symm.trans hc59) (by decide))).symm; done) | (dsimp only; done)) (subH_row rfl (by first | (rw [Int.toNat_natCast, h66]; exact congrArg encI.enc (mm_yes hmi hmn hk1 (by omega) hc59).symm) | (rw [Int.toNat_natCast]; exact congrArg encI.enc (nn_yes hmi hmn hk1 (by omega) hc59).symm) | exact congrArg encI.enc (mm_no hmi hk1 (fun h => by have := h.1; omega)).symm | exact congrArg encI.enc (nn_no hmi hk1 (fun h => by have := h.1; omega)).symm | exact congrArg encI.enc (mm_no hmi hk1 (fun h => absurd (h.2.symm.trans hc59) (by decide))).symm | exact congrArg encI.enc (nn_no hmi hk1 (fun h => absurd (h.2.symm.trans hc59) (by decide))).symm) subH_nil))) (subH_same rfl (subH_same rfl (subH_same rfl (subH_same rfl subH_nil))))))
         ·try dsimp only
          omega
         ·try dsimp only
          omega
       ·have phs54 := hs54; try simp only [decide_eq_true_eq, decide_eq_false_iff_not, Bool.not_eq_true', Bool.not_eq_false', Bool.not_true, Bool.not_false] at phs54
        refine ql_s rfl rfl hs54 rfl ?_
        refine ql_s rfl rfl hs54 rfl ?_
        refine ql_s rfl rfl hs54 rfl ?_
        refine ql_s rfl rfl hs54 rfl ?_
        refine ql_r (r_pickF rfl hs54 rfl) rfl ?_
        refine ql_nil (to_k0 (fun _ _ h => h) (hK22 _ _ _ _ _ ?_))
        clear hK22
        refine wp_condF rfl ?_
        refine wp_skip' (to_k0 (fun _ _ h => h) (hK21 _ _ _ _ _ ?_))
        clear hK21
        refine wp_reg ?_
        refine ol_r (r_move rfl) rfl ?_
        refine ol_r (r_add rfl rfl (by omega)) rfl ?_
        refine ol_r (r_assign rfl) rfl ?_
        refine ol_nil (to_k0 (fun _ _ h => h) (hK18 (k + 1) _ _ ?_ ?_ (sub_cons rfl sub_nil) (sub_cons rfl (sub_cons rfl (sub_cons rfl (sub_cons rfl (sub_cons rfl (sub_cons rfl (sub_cons rfl sub_nil))))))) (by exact (subH_row rfl (by first | (dsimp only; first | (rw [Int.toNat_natCast, h66]; exact congrArg encI.enc (mm_yes hmi hmn hk1 (by omega) hc59).symm) | (rw [Int.toNat_natCast]; exact congrArg encI.enc (nn_yes hmi hmn hk1 (by omega) hc59).symm) | exact congrArg encI.enc (mm_no hmi hk1 (fun h => by have := h.1; omega)).symm | exact congrArg encI.enc (nn_no hmi hk1 (fun h => by have := h.1; omega)).symm | exact congrArg encI.enc (mm_no hmi hk1 (fun h => absurd (h.2.symm.trans hc59) (by decide))).symm | exact congrArg encI.enc (nn_no hmi hk1 (fun h => absurd (h.2.symm.trans hc59) (by decide))).symm; done) | (first | (rw [Int.toNat_natCast, h66]; exact congrArg encI.enc (mm_yes hmi hmn hk1 (by omega) hc59).symm) | (rw [Int.toNat_natCast]; exact congrArg encI.enc (nn_yes hmi hmn hk1 (by omega) hc59).symm) | exact congrArg encI.enc (mm_no hmi hk1 (fun h => by have := h.1; omega)).symm | exact congrArg encI.enc (nn_no hmi hk1 (fun h => by have := h.1; omega)).symm | exact congrArg encI.enc (mm_no hmi hk1 (fun h => absurd (h.2.symm.trans hc59) (by decide))).symm | exact congrArg encI.enc (nn_no hmi hk1 (fun h => absurd (h.2.symm.trans hc59) (by decide))).symm; done) | (dsimp only; done)) (subH_row rfl (by first | (dsimp only; first | (rw [Int.toNat_natCast, h66]; exact congrArg encI.enc (mm_yes hmi hmn hk1 (by omega) hc59).symm) | (rw [Int.toNat_natCast]; exact congrArg encI.enc (nn_yes hmi hmn hk1 (by omega) hc59).symm) | exact congrArg encI.enc (mm_no hmi hk1 (fun h => by have := h.1; omega)).symm | exact congrArg encI.enc (nn_no hmi hk1 (fun h => by have := h.1; omega)).symm | exact congrArg encI.enc (mm_no hmi hk1 (fun h => absurd (h.2.symm.trans hc59) (by decide))).symm | exact congrArg encI.enc (nn_no hmi hk1 (fun h => absurd (h.2.symm.trans hc59) (by decide))).symm; done) | (first | (rw [Int.toNat_natCast, h66]; exact congrArg encI.enc (mm_yes hmi hmn hk1 (by omega) hc59).symm) | (rw [Int.toNat_natCast]; exact congrArg encI.enc (nn_yes hmi hmn hk1 (by omega) hc59).symm) | exact congrArg encI.enc (mm_no hmi hk1 (fun h => by have := h.1; omega)).symm | exact congrArg encI.enc (nn_no hmi hk1 (fun h => by have := h.1; omega)).symm | exact congrArg encI.enc (mm_no hmi hk1 (fun h => absurd (h.2.symm.trans hc59) (by decide))).symm | exact congrArg encI.enc (nn_no hmi hk1 (fun h => absurd (h.2.symm.trans hc59) (by decide))).symm; done) | (dsimp only; done)) subH_nil))) (subH_same rfl (subH_same rfl (subH_same rfl (subH_same rfl subH_nil))))))
        ·try dsimp only
         omega
        ·try dsimp only
         omega
      ·refine wp_exit' (to_k0 (fun _ _ h => h) (hK15 _ _ _ _ _ ?_))
       clear hK15
       refine wp_reg ?_
       refine ol_r (r_move rfl) rfl ?_
       refine ol_r (r_sub rfl rfl (by omega)) rfl ?_
       refine ol_r (r_assign rfl) rfl ?_
       refine ol_nil (to_k0 (fun _ _ h => h) (hK12 ((_, m + 1)) _ _ ?_ ?_ (sub_cons rfl sub_nil) (sub_cons rfl (sub_cons rfl (sub_cons rfl (sub_cons rfl (sub_cons rfl (sub_cons rfl sub_nil)))))) (by exact (subH_row rfl (by first | (dsimp only; first | exact congrArg encI.enc (mm_done hEn hmi hmn (by omega)).symm | exact congrArg encI.enc (nn_done hEn hmi hmn (by omega)).symm; done) | (first | exact congrArg encI.enc (mm_done hEn hmi hmn (by omega)).symm | exact congrArg encI.enc (nn_done hEn hmi hmn (by omega)).symm; done) | (dsimp only; done)) (subH_row rfl (by dsimp only; first | exact congrArg encI.enc (mm_done hEn hmi hmn (by omega)).symm | exact congrArg encI.enc (nn_done hEn hmi hmn (by omega)).symm) subH_nil))) (subH_same rfl (subH_same rfl (subH_same rfl (subH_same rfl subH_nil))))))
       ·try dsimp only
        exact ⟨by omega, by omega⟩
       ·try dsimp only
        omega
    ·refine wp_exit' (to_k0 (fun _ _ h => h) (hK10 _ _ _ _ _ ?_))
     clear hK10
     refine wp_seq' fun K25 hK25 => ?_
     refine wp_reg ?_
     have hmn : m = A.ss.length - 1 := by omega
     subst hmn
     refine ol_r (r_ld (id := 7) rfl rfl rfl sc3) rfl ?_
     refine ol_r (r_sub rfl rfl (by omega)) rfl ?_
     refine ol_r (r_func rfl) rfl ?_
     refine ol_call rfl rfl cb61 rfl (fun w1 hb1 hs1 hB1 => Calls.mono (chain_few A.ss (most * most) A.sn b10 b7 a26 A.sn _ ⟨hs1.blkS (id := 7) rfl (sub_cons rfl sub_nil), hs1.blkS (id := 10) rfl (sub_cons rfl sub_nil), Sat.rd hs1 (id := 26) rfl rfl, ⟨hsn, by omega⟩⟩) ?_)
     rintro e w2 ⟨a75, n75, c75, rfl, hf75⟩
     refine After.fresh (id := 75) rfl hb1 hs1 hB1 hf75 ?_
     have hl75 := hf75.len; clear hf75 hB1 hs1 hb1 w2 w1
     refine ol_r (r_assign rfl) rfl ?_
     refine ol_r (r_assign rfl) rfl ?_
     refine ol_nil (to_k0 (fun _ _ h => h) (hK25 _ _ _ _ _ ?_))
     clear hK25
     refine hQ.ret (rvs2 (rv_t rfl) (rv_t rfl)) (fun _ _ h => h) fun w hb hs hB hkd => ?_
     have h := fewestR_0 (a := A.d) (Decidable.not_not.1 hc17)
     rw [h]
     exact ⟨_, _, _, rfl, hb, hs.ok 75 _ rfl⟩
theorem ref3_stands (a : Option Addr) (n c : Nat) (ss : List SmpR) (st most : Int) (i j : Nat) (w : World) (hl : Rd encSmp w.heap.size w a n c ss) (hok : SmpOk st ss) (hm : 0 ≤ most ∧ most ≤ 100000000) (hij : i < j) (hj : j < ss.length) :
    Calls Try.prog 63 #[.slice a n c, .int .i64 i, .int .i64 j, .int .i64 most] w fun e w' => e = .returned (.bool (enoughB ss (most * most) i j)) ∧ Below w.heap.size w w' := by
  have hn := hl.len
  have hl20 := hok.len
  have hmm := mul_bd (a := most) (b := most) (A := 100000000) (B := 100000000) (by omega) (by omega) (by omega) (by omega)
  refine enterQ (N := 26) (C := fun _ => True) (H := []) (B := w.heap.size) (args := [_, _, _, _]) Try.func63 rfl rfl rfl (Nat.le_refl _) (Sat.nil _ _) fun Q hQ => ?_
  refine wp_seq' fun K1 hK1 => ?_
  refine wp_reg ?_
  refine ol_r (r_assign rfl) rfl ?_
  refine ol_nil (to_k0 (fun _ _ h => h) (hK1 _ _ _ _ _ ?_))
  clear hK1
  refine wp_seq' fun K2 hK2 => ?_
  refine wp_seq' fun K3 hK3 => ?_
  refine wp_reg ?_
  refine ol_r (r_move rfl) rfl ?_
  refine ol_r (r_add rfl rfl (by omega)) rfl ?_
  refine ol_r (r_assign rfl) rfl ?_
  refine ol_nil (to_k0 (fun _ _ h => h) (hK3 _ _ _ _ _ ?_))
  clear hK3
  refine wp_block' ?_
  apply wp_loopM (σ := Nat) (fun s => i + 1 ≤ s ∧ s ≤ j ∧ ∀ x, i < x → x < s → errI ss i x j ≤ most * most) (fun s => [(9, .int .i64 s)]) [(0, _), (1, _), (2, _), (3, _)] (fun s => []) [] (fun s => j - s) (i + 1)
  ·try dsimp only
   exact ⟨Nat.le_refl _, by omega, fun x a b => by omega⟩
  ·exact (sub_cons rfl sub_nil)
  ·exact (sub_cons rfl (sub_cons rfl (sub_cons rfl (sub_cons rfl sub_nil))))
  ·exact subH_nil
  ·exact subH_nil
  ·rintro k ⟨hk1, hk2, hP⟩
   intro K4 hK4
   refine wp_seq' fun K5 hK5 => ?_
   refine wp_seq' fun K6 hK6 => ?_
   refine wp_reg ?_
   refine ol_r (r_move rfl) rfl ?_
   refine ol_r (r_move rfl) rfl ?_
   refine ol_r (r_lss rfl rfl) rfl ?_
   refine ol_nil (to_k0 (fun _ _ h => h) (hK6 _ _ _ _ _ ?_))
   clear hK6
   refine wp_condD rfl (fun hc14 => ?_) (fun hc14 => ?_)
   ·refine wp_skip' (to_k0 (fun _ _ h => h) (hK5 _ _ _ _ _ ?_))
    clear hK5
    refine wp_seq' fun K7 hK7 => ?_
    refine wp_block' ?_
    refine wp_seq' fun K8 hK8 => ?_
    refine wp_reg ?_
    refine ol_r (r_move rfl) rfl ?_
    refine ol_r (r_move rfl) rfl ?_
    refine ol_r (r_move rfl) rfl ?_
    refine ol_r (r_move rfl) rfl ?_
    refine ol_call rfl rfl cb109 rfl (fun w1 hb1 hs1 hB1 => Calls.mono (ref3_fault _ _ _ ss st i k j _ (hl.at hb1 hB1) hok (by omega) (by omega) hj) ?_)
    rintro e w2 ⟨rfl, hb2⟩
    refine After.below rfl hb1 hs1 hB1 hb2 ?_
    clear hb2 hB1 hs1 hb1 w2 w1
    refine ol_r (r_move rfl) rfl ?_
    refine ol_r (r_move rfl) rfl ?_
    refine ol_r (r_mul rfl rfl (by omega)) rfl ?_
    refine ol_r (r_gtr rfl rfl) rfl ?_
    refine ol_nil (to_k0 (fun _ _ h => h) (hK8 _ _ _ _ _ ?_))
    clear hK8
    refine wp_condD rfl (fun hc25 => ?_) (fun hc25 => ?_)
    ·refine wp_seq' fun K9 hK9 => ?_
     refine wp_reg ?_
     refine ol_r (r_assign rfl) rfl ?_
     refine ol_nil (to_k0 (fun _ _ h => h) (hK9 _ _ _ _ _ ?_))
     clear hK9
     refine hQ.ret (rvs1 (rv_t rfl)) (fun _ _ h => h) fun w hb hs hB hkd => ?_
     exact ⟨by rw [enough_no hk1 (by omega) hc25], hb⟩
    ·refine wp_skip' (to_k0 (fun _ _ h => h) (hK7 _ _ _ _ _ ?_))
     clear hK7
     refine wp_reg ?_
     refine ol_r (r_move rfl) rfl ?_
     refine ol_r (r_add rfl rfl (by omega)) rfl ?_
     refine ol_r (r_assign rfl) rfl ?_
     refine ol_nil (to_k0 (fun _ _ h => h) (hK4 (k + 1) _ _ ?_ ?_ (sub_cons rfl sub_nil) (sub_cons rfl (sub_cons rfl (sub_cons rfl (sub_cons rfl sub_nil)))) (by exact subH_nil) subH_nil))
     ·try dsimp only
      refine ⟨by omega, by omega, fun x a b => ?_⟩
      by_cases hxk : x < k
      · exact hP x a hxk
      · obtain rfl : x = k := by omega
        omega
     ·try dsimp only
      omega
   ·refine wp_exit' (to_k0 (fun _ _ h => h) (hK2 _ _ _ _ _ ?_))
    clear hK2
    refine wp_seq' fun K10 hK10 => ?_
    refine wp_reg ?_
    refine ol_r (r_assign rfl) rfl ?_
    refine ol_nil (to_k0 (fun _ _ h => h) (hK10 _ _ _ _ _ ?_))
    clear hK10
    refine hQ.ret (rvs1 (rv_t rfl)) (fun _ _ h => h) fun w hb hs hB hkd => ?_
    exact ⟨by rw [enoughB_iff.2 fun x a b => hP x a (by omega)], hb⟩
theorem ref3_Fewest (A : ActV) (most : Int) (w : World) (hA : A.Ok w.heap.size w) :
    Calls Try.prog 20 #[.agg #[.string A.name, .int .i64 A.sport, .int .i64 A.start, .slice A.sa A.sn A.sc, .slice A.la A.ln A.lc, .slice A.ta A.tn A.tc], .int .i64 most] w fun e w' => ∃ b m k, e = .returned (.tuple #[.slice b m k, .int .i64 (fewestR A.d most).2]) ∧ Fresh encI 3 w w' b m k (fewestR A.d most).1 := by
  have hsn := hA.s.len
  have hsf := hA.s.fit
  refine enterQ (N := 104) (C := fun _ => True) (H := []) (B := w.heap.size) (args := [_, _]) Try.func20 rfl rfl rfl (Nat.le_refl _) (Sat.nil _ _) fun Q hQ => ?_
  refine wp_seq' fun K1 hK1 => ?_
  refine wp_reg ?_
  refine ol_box 2 rfl rfl rfl fun b2 => ?_
  refine ol_r (r_assign rfl) rfl ?_
  refine ol_r (r_assign rfl) rfl ?_
  refine ol_nil (to_k0 (fun _ _ h => h) (hK1 _ _ _ _ _ ?_))
  clear hK1
  refine wp_seq' fun K2 hK2 => ?_
  refine wp_seq' fun K3 hK3 => ?_
  refine wp_reg ?_
  refine ol_r (r_lda (id := 2) (n := 6) rfl rfl rfl ag26) rfl ?_
  refine ol_call rfl rfl cb44 rfl (fun w1 hb1 hs1 hB1 => Calls.mono (ref2_Check A _ (hA.at hb1 hB1)) ?_)
  rintro e w2 ⟨rfl, hb2⟩
  refine After.below rfl hb1 hs1 hB1 hb2 ?_
  clear hb2 hB1 hs1 hb1 w2 w1
  refine ol_r (r_assign rfl) rfl ?_
  refine ol_nil (to_k0 (fun _ _ h => h) (hK3 _ _ _ _ _ ?_))
  clear hK3
  refine wp_seq' fun K4 hK4 => ?_
  refine wp_reg ?_
  refine ol_r (r_move rfl) rfl ?_
  refine ol_r (r_neq rfl rfl) rfl ?_
  refine ol_nil (to_k0 (fun _ _ h => h) (hK4 _ _ _ _ _ ?_))
  clear hK4
  refine wp_condD rfl (fun hc17 => ?_) (fun hc17 => ?_)
  ·refine wp_seq' fun K5 hK5 => ?_
   refine wp_reg ?_
   refine ol_r (r_move rfl) rfl ?_
   refine ol_r (r_assign rfl) rfl ?_
   refine ol_r (r_assign rfl) rfl ?_
   refine ol_nil (to_k0 (fun _ _ h => h) (hK5 _ _ _ _ _ ?_))
   clear hK5
   refine hQ.ret (rvs2 (rv_t rfl) (rv_t rfl)) (fun _ _ h => h) fun w hb hs hB hkd => ?_
   have h := fewestR_e (a := A.d) (most := most) (by rw [fewErr_e hc17]; exact hc17)
   rw [fewErr_e hc17] at h
   exact ⟨none, 0, 0, by rw [h], by rw [h]; exact Fresh.nil hb⟩
  ·refine wp_skip' (to_k0 (fun _ _ h => h) (hK2 _ _ _ _ _ ?_))
   clear hK2
   refine wp_seq' fun K6 hK6 => ?_
   refine wp_seq' fun K7 hK7 => ?_
   refine wp_reg ?_
   refine ol_r (r_move rfl) rfl ?_
   refine ol_call rfl rfl cb45 rfl (fun w1 hb1 hs1 hB1 => Calls.mono (ref3_outside _ _ _ _) ?_)
   rintro e w2 ⟨rfl, hb2⟩
   refine After.below rfl hb1 hs1 hB1 hb2 ?_
   clear hb2 hB1 hs1 hb1 w2 w1
   refine ol_nil (to_k0 (fun _ _ h => h) (hK7 _ _ _ _ _ ?_))
   clear hK7
   refine wp_condNB rfl (fun hc20 => ?_) (fun hc20 => ?_)
   ·refine wp_seq' fun K8 hK8 => ?_
    refine wp_reg ?_
    refine ol_r (r_assign rfl) rfl ?_
    refine ol_r (r_assign rfl) rfl ?_
    refine ol_nil (to_k0 (fun _ _ h => h) (hK8 _ _ _ _ _ ?_))
    clear hK8
    refine hQ.ret (rvs2 (rv_t rfl) (rv_t rfl)) (fun _ _ h => h) fun w hb hs hB hkd => ?_
    have h9 := fewErr_9 (a := A.d) (lim := 300) (Decidable.not_not.1 hc17) (fun h => by have := inB_iff.2 h; rw [this] at hc20; cases hc20)
    have h := fewestR_e (a := A.d) (most := most) (by rw [h9]; decide)
    rw [h9] at h
    exact ⟨none, 0, 0, by rw [h], by rw [h]; exact Fresh.nil hb⟩
   ·refine wp_skip' (to_k0 (fun _ _ h => h) (hK6 _ _ _ _ _ ?_))
    clear hK6
    refine wp_seq' fun K9 hK9 => ?_
    refine wp_reg ?_
    refine ol_r (r_fa (o' := 3) rfl fl26_3 rfl) rfl ?_
    refine ol_r (r_ld (id := 2) rfl rfl rfl sc22) rfl ?_
    refine ol_r (r_len rfl sl22) rfl ?_
    refine ol_r (r_assign rfl) rfl ?_
    refine ol_nil (to_k0 (fun _ _ h => h) (hK9 _ _ _ _ _ ?_))
    clear hK9
    refine wp_seq' fun K10 hK10 => ?_
    refine wp_seq' fun K11 hK11 => ?_
    refine wp_reg ?_
    refine ol_r (r_move rfl) rfl ?_
    refine ol_r (r_gtr rfl rfl) rfl ?_
    refine ol_nil (to_k0 (fun _ _ h => h) (hK11 _ _ _ _ _ ?_))
    clear hK11
    refine wp_condD rfl (fun hc25 => ?_) (fun hc25 => ?_)
    ·refine wp_seq' fun K12 hK12 => ?_
     refine wp_reg ?_
     refine ol_r (r_assign rfl) rfl ?_
     refine ol_r (r_assign rfl) rfl ?_
     refine ol_nil (to_k0 (fun _ _ h => h) (hK12 _ _ _ _ _ ?_))
     clear hK12
     refine hQ.ret (rvs2 (rv_t rfl) (rv_t rfl)) (fun _ _ h => h) fun w hb hs hB hkd => ?_
     have h9 := fewErr_3 (a := A.d) (lim := 300) (Decidable.not_not.1 hc17) (inB_iff.1 hc20) (by show (300 : Int) < (A.ss.length : Int); omega)
     have h := fewestR_e (a := A.d) (most := most) (by rw [h9]; decide)
     rw [h9] at h
     exact ⟨none, 0, 0, by rw [h], by rw [h]; exact Fresh.nil hb⟩
    ·refine wp_skip' (to_k0 (fun _ _ h => h) (hK10 _ _ _ _ _ ?_))
     clear hK10
     refine wp_seq' fun K13 hK13 => ?_
     refine wp_rega [(999, [(2, _)])] (by kernel_rfl) ⟨.inr (subH_same rfl subH_nil), trivial⟩ ?_
     have h0 : chkA A.d = 0 := Decidable.not_not.1 hc17
     have hok : SmpOk A.start A.ss := (goodA h0).smp
     have hl20 := hok.len
     have hmost : 0 ≤ most ∧ most ≤ 100000000 := inB_iff.1 (by simpa using hc20)
     have hEn := fun i => enoughB_next A.ss (most * most) i
     refine aq_r 0 999 rfl (by kernel_rfl) (by kernel_rfl) (by kernel_rfl) (.head _) (by kernel_rfl) (by kernel_rfl) rfl (r_move rfl) ?_
     refine aq_r 2 999 rfl (by kernel_rfl) (by kernel_rfl) (by kernel_rfl) (.head _) (by kernel_rfl) (by kernel_rfl) rfl (r_move rfl) ?_
     refine aq_two (i := 1) (j := 3) (by kernel_rfl) rfl rfl (fun K14 hK14 => ?_) (fun K14 hK14 => ?_)
     ·refine ol_make encI (0) 27 rfl rfl rw37 z3 rfl rfl (by omega) rfl fun a27 => ?_
      refine ol_nil (to_k0 (fun _ _ h => h) (hK14 _ _ ⟨.inr (by repeat' first | exact subH_nil | refine subH_same rfl ?_ | (refine subH_blk rfl (by repeat' first | exact sub_nil | refine sub_cons rfl ?_) ?_)), trivial⟩ ?_))
      clear hK14
      refine aq_r 4 999 rfl (by kernel_rfl) (by kernel_rfl) (by kernel_rfl) (.head _) (by kernel_rfl) (by kernel_rfl) rfl (r_assign rfl) ?_
      refine aq_one (i := 3) (by kernel_rfl) rfl fun K15 hK15 => ?_
      refine ol_make encI (0) 29 rfl rfl rw37 z3 rfl rfl (by omega) rfl fun a29 => ?_
      refine ol_nil (to_k0 (fun _ _ h => h) (hK15 _ _ ⟨.inr (by repeat' first | exact subH_nil | refine subH_same rfl ?_ | (refine subH_blk rfl (by repeat' first | exact sub_nil | refine sub_cons rfl ?_) ?_)), trivial⟩ ?_))
      clear hK15
      refine aq_r 5 999 rfl (by kernel_rfl) (by kernel_rfl) (by kernel_rfl) (.head _) (by kernel_rfl) (by kernel_rfl) rfl (r_assign rfl) ?_
      refine aq_done (by kernel_rfl) ?_
      refine (to_k0 (fun _ _ h => h) (hK13 _ _ _ _ _ ?_))
      clear hK13
      refine wp_seq' fun K16 hK16 => ?_
      refine wp_seq' fun K17 hK17 => ?_
      refine wp_reg ?_
      refine ol_r (r_move rfl) rfl ?_
      refine ol_r (r_sub rfl rfl (by omega)) rfl ?_
      refine ol_r (r_assign rfl) rfl ?_
      refine ol_nil (to_k0 (fun _ _ h => h) (hK17 _ _ _ _ _ ?_))
      clear hK17
      refine wp_block' ?_
      apply wp_loopM (σ := Int × Nat) (fun s => s.1 = (A.ss.length : Int) - 2 - s.2 ∧ s.2 ≤ A.ss.length - 1) (fun s => [(10, .int .i64 s.1)]) [(1, _), (2, _), (4, _), (5, _), (7, _), (8, _), (9, _)] (fun s => [(27, .row a27 A.sn A.sn (encI.enc (tab A.ss.length (manyL (enoughB A.ss (most * most)) A.ss.length s.2))) 3 1), (29, .row a29 A.sn A.sn (encI.enc (tab A.ss.length (nextF (enoughB A.ss (most * most)) A.ss.length s.2))) 3 1)]) [(2, _)] (fun s => A.ss.length - s.2) (((A.sn : Int) - 2, 0))
      ·try dsimp only
       exact ⟨by omega, Nat.zero_le _⟩
      ·exact (sub_cons rfl sub_nil)
      ·exact (sub_cons rfl (sub_cons rfl (sub_cons rfl (sub_cons rfl (sub_cons rfl (sub_cons rfl (sub_cons rfl sub_nil)))))))
      ·exact (subH_row rfl (by dsimp only; first | rfl | (rw [← hsn, tab_zero]; rfl)) (subH_row rfl (by dsimp only; first | rfl | (rw [← hsn, tab_zero]; rfl)) subH_nil))
      ·exact (subH_same rfl subH_nil)
      ·rintro ⟨i, m⟩ ⟨hi, hm⟩
       dsimp only at hi hm ⊢
       intro K18 hK18
       refine wp_seq' fun K19 hK19 => ?_
       refine wp_seq' fun K20 hK20 => ?_
       refine wp_reg ?_
       refine ol_r (r_move rfl) rfl ?_
       refine ol_r (r_geq rfl rfl) rfl ?_
       refine ol_nil (to_k0 (fun _ _ h => h) (hK20 _ _ _ _ _ ?_))
       clear hK20
       refine wp_condD rfl (fun hc33 => ?_) (fun hc33 => ?_)
       ·refine wp_skip' (to_k0 (fun _ _ h => h) (hK19 _ _ _ _ _ ?_))
        clear hK19
        refine wp_seq' fun K21 hK21 => ?_
        refine wp_block' ?_
        refine wp_seq' fun K22 hK22 => ?_
        refine wp_reg ?_
        obtain ⟨iN, hiN⟩ := Int.eq_ofNat_of_zero_le (show 0 ≤ i by omega)
        subst hiN
        have hmn : m + 1 < A.ss.length := by omega
        have hmi : A.ss.length - 2 - m = iN := by omega
        refine ol_r (r_move rfl) rfl ?_
        refine ol_r (r_move rfl) rfl ?_
        refine ol_ixo (id := 29) encI _ rfl rfl rfl rfl sl37 (by omega) rfl fun x38 hx38 => ?_
        try simp only [Int.toNat_natCast] at hx38
        try simp only [Int.toNat_natCast] at hx38
        refine ol_storeRow (id := 29) _ _ _ rfl rfl rfl rfl sz3 (by omega) ?_
        refine ol_nil (to_k0 (fun _ _ h => h) (hK22 _ _ _ _ _ ?_))
        clear hK22
        refine wp_seq' fun K23 hK23 => ?_
        refine wp_seq' fun K24 hK24 => ?_
        refine wp_reg ?_
        refine ol_r (r_move rfl) rfl ?_
        refine ol_r (r_add rfl rfl (by omega)) rfl ?_
        refine ol_r (r_assign rfl) rfl ?_
        refine ol_nil (to_k0 (fun _ _ h => h) (hK24 _ _ _ _ _ ?_))
        clear hK24
        refine wp_block' ?_
        apply wp_loopM (σ := Nat) (fun s => iN + 1 ≤ s ∧ s ≤ A.ss.length) (fun s => [(11, .int .i64 s)]) [(1, _), (2, _), (4, _), (5, _), (7, _), (8, _), (9, _), (10, _)] (fun s => [(29, .row a29 A.sn A.sn (encI.enc (tab A.ss.length (rrL (enoughB A.ss (most * most)) A.ss.length m (s - (iN + 1))))) 3 1)]) [(2, _), (27, _)] (fun s => A.ss.length - s) (iN + 1)
        ·try dsimp only
         exact ⟨Nat.le_refl _, by omega⟩
        ·exact (sub_cons rfl sub_nil)
        ·exact (sub_cons rfl (sub_cons rfl (sub_cons rfl (sub_cons rfl (sub_cons rfl (sub_cons rfl (sub_cons rfl (sub_cons rfl sub_nil))))))))
        ·exact (subH_row rfl (by rw [Int.toNat_natCast]; exact congrArg encI.enc (rr_zero hmi hmn).symm) subH_nil)
        ·exact (subH_same rfl (subH_same rfl subH_nil))
        ·rintro k ⟨hk1, hk2⟩
         intro K25 hK25
         refine wp_seq' fun K26 hK26 => ?_
         refine wp_seq' fun K27 hK27 => ?_
         refine wp_reg ?_
         refine ol_r (r_move rfl) rfl ?_
         refine ol_r (r_move rfl) rfl ?_
         refine ol_r (r_lss rfl rfl) rfl ?_
         refine ol_nil (to_k0 (fun _ _ h => h) (hK27 _ _ _ _ _ ?_))
         clear hK27
         refine wp_condD rfl (fun hc43 => ?_) (fun hc43 => ?_)
         ·refine wp_skip' (to_k0 (fun _ _ h => h) (hK26 _ _ _ _ _ ?_))
          clear hK26
          refine wp_seq' fun K28 hK28 => ?_
          refine wp_block' ?_
          refine wp_seq' fun K29 hK29 => ?_
          refine wp_regq (by kernel_rfl) (by kernel_rfl) ?_
          have htl := tab_len A.ss.length (manyL (enoughB A.ss (most * most)) A.ss.length m)
          have htl2 := tab_len A.ss.length (rrL (enoughB A.ss (most * most)) A.ss.length m (k - (iN + 1)))
          have hfr := fewR_rg (en := enoughB A.ss (most * most)) (mf := manyL (enoughB A.ss (most * most)) A.ss.length m) hk1
          refine ql_r (r_move rfl) rfl ?_
          refine ql_r (r_move rfl) rfl ?_
          refine ql_ixo (id := 29) encI _ rfl rfl rfl rfl sl37 (by omega) (by omega) rfl fun x48 hx48 => ?_
          try simp only [Int.toNat_natCast] at hx48
          try simp only [Int.toNat_natCast] at hx48
          refine ql_r (r_ldw rfl (fun w1 hb1 hs1 hB1 => show Loads _ _ _ _ (.int .i64 x48) from ld_own (id := 29) hs1 rfl rfl ty3 hx48)) rfl ?_
          have h48 := (tab_get hx48).2
          rw [rr_eq hmi] at h48
          subst h48
          refine ql_r (r_lss rfl rfl) rfl ?_
          refine ql_r (r_move rfl) rfl ?_
          refine ql_split (d := 51) rfl (fun hs51 => ?_) (fun hs51 => ?_)
          ·have phs51 := hs51; try simp only [decide_eq_true_eq, decide_eq_false_iff_not, Bool.not_eq_true', Bool.not_eq_false', Bool.not_true, Bool.not_false] at phs51
           refine ql_s rfl rfl hs51 rfl ?_
           refine ql_s rfl rfl hs51 rfl ?_
           refine ql_s rfl rfl hs51 rfl ?_
           refine ql_s rfl rfl hs51 rfl ?_
           refine ql_s rfl rfl hs51 rfl ?_
           refine ql_s rfl rfl hs51 rfl ?_
           refine ql_s rfl rfl hs51 rfl ?_
           refine ql_s rfl rfl hs51 rfl ?_
           refine ql_s rfl rfl hs51 rfl ?_
           refine ql_s rfl rfl hs51 rfl ?_
           refine ql_s rfl rfl hs51 rfl ?_
           refine ql_s rfl rfl hs51 rfl ?_
           refine ql_r (r_pickT rfl hs51 rfl) rfl ?_
           refine ql_r (r_move rfl) rfl ?_
           refine ql_g rfl rfl rfl ?_
           refine ql_r (r_fa (o' := 3) rfl fl26_3 rfl) rfl ?_
           refine ql_g rfl rfl rfl ?_
           refine ql_r (r_ld (id := 2) rfl rfl rfl sc22) rfl ?_
           refine ql_g rfl rfl rfl ?_
           refine ql_r (r_move rfl) rfl ?_
           refine ql_g rfl rfl rfl ?_
           refine ql_r (r_move rfl) rfl ?_
           refine ql_g rfl rfl rfl ?_
           refine ql_r (r_move rfl) rfl ?_
           refine ql_g rfl rfl rfl ?_
           refine ql_call rfl rfl cb63 rfl (fun w1 hb1 hs1 hB1 => ref3_stands _ _ _ A.ss A.start most iN k _ (hA.s.at hb1 hB1) hok hmost (by omega) (by omega)) ?_
           refine ql_r (r_pickT rfl rfl rfl) rfl ?_
           refine ql_nil (to_k0 (fun _ _ h => h) (hK29 _ _ _ _ _ ?_))
           clear hK29
           refine wp_cond' rfl (fun hc72 => ?_) (fun hc72 => ?_)
           ·refine wp_reg ?_
            refine ol_r (r_move rfl) rfl ?_
            refine ol_r (r_move rfl) rfl ?_
            refine ol_r (r_move rfl) rfl ?_
            refine ol_ixo (id := 29) encI _ rfl rfl rfl rfl sl37 (by omega) rfl fun x76 hx76 => ?_
            try simp only [Int.toNat_natCast] at hx76
            try simp only [Int.toNat_natCast] at hx76
            refine ol_storeRow (id := 29) _ _ _ rfl rfl rfl rfl sz3 (by omega) ?_
            refine ol_nil (to_k0 (fun _ _ h => h) (hK28 _ _ _ _ _ ?_))
            clear hK28
            refine wp_reg ?_
            refine ol_r (r_move rfl) rfl ?_
            refine ol_r (r_add rfl rfl (by omega)) rfl ?_
            refine ol_r (r_assign rfl) rfl ?_
            refine ol_nil (to_k0 (fun _ _ h => h) (hK25 (k + 1) _ _ ?_ ?_ (sub_cons rfl sub_nil) (sub_cons rfl (sub_cons rfl (sub_cons rfl (sub_cons rfl (sub_cons rfl (sub_cons rfl (sub_cons rfl (sub_cons rfl sub_nil)))))))) (by exact (subH_row rfl (by first | (dsimp only; first | (rw [Int.toNat_natCast]; exact congrArg encI.enc (rr_yes hmi hmn hk1 (.inl (by omega)) hc72).symm) | (rw [Int.toNat_natCast]; exact congrArg encI.enc (rr_yes hmi hmn hk1 (.inr (by omega)) hc72).symm) | exact congrArg encI.enc (rr_no hmi hk1 (fun h => absurd (h.2.symm.trans hc72) (by decide))).symm | exact congrArg encI.enc (rr_no hmi hk1 (fun h => by have := h.1; omega)).symm; done) | (first | (rw [Int.toNat_natCast]; exact congrArg encI.enc (rr_yes hmi hmn hk1 (.inl (by omega)) hc72).symm) | (rw [Int.toNat_natCast]; exact congrArg encI.enc (rr_yes hmi hmn hk1 (.inr (by omega)) hc72).symm) | exact congrArg encI.enc (rr_no hmi hk1 (fun h => absurd (h.2.symm.trans hc72) (by decide))).symm | exact congrArg encI.enc (rr_no hmi hk1 (fun h => by have := h.1; omega)).symm; done) | (dsimp only; done)) subH_nil)) (subH_same rfl (subH_same rfl subH_nil))))
            ·try dsimp only
             omega
            ·try dsimp only
             omega
           ·refine wp_skip' (to_k0 (fun _ _ h => h) (hK28 _ _ _ _ _ ?_))
            clear hK28
            refine wp_reg ?_
            refine ol_r (r_move rfl) rfl ?_
            refine ol_r (r_add rfl rfl (by omega)) rfl ?_
            refine ol_r (r_assign rfl) rfl ?_
            refine ol_nil (to_k0 (fun _ _ h => h) (hK25 (k + 1) _ _ ?_ ?_ (sub_cons rfl sub_nil) (sub_cons rfl (sub_cons rfl (sub_cons rfl (sub_cons rfl (sub_cons rfl (sub_cons rfl (sub_cons rfl (sub_cons rfl sub_nil)))))))) (by exact (subH_row rfl (by first | (dsimp only; first | (rw [Int.toNat_natCast]; exact congrArg encI.enc (rr_yes hmi hmn hk1 (.inl (by omega)) hc72).symm) | (rw [Int.toNat_natCast]; exact congrArg encI.enc (rr_yes hmi hmn hk1 (.inr (by omega)) hc72).symm) | exact congrArg encI.enc (rr_no hmi hk1 (fun h => absurd (h.2.symm.trans hc72) (by decide))).symm | exact congrArg encI.enc (rr_no hmi hk1 (fun h => by have := h.1; omega)).symm; done) | (first | (rw [Int.toNat_natCast]; exact congrArg encI.enc (rr_yes hmi hmn hk1 (.inl (by omega)) hc72).symm) | (rw [Int.toNat_natCast]; exact congrArg encI.enc (rr_yes hmi hmn hk1 (.inr (by omega)) hc72).symm) | exact congrArg encI.enc (rr_no hmi hk1 (fun h => absurd (h.2.symm.trans hc72) (by decide))).symm | exact congrArg encI.enc (rr_no hmi hk1 (fun h => by have := h.1; omega)).symm; done) | (dsimp only; done)) subH_nil)) (subH_same rfl (subH_same rfl subH_nil))))
            ·try dsimp only
             omega
            ·try dsimp only
             omega
          ·have phs51 := hs51; try simp only [decide_eq_true_eq, decide_eq_false_iff_not, Bool.not_eq_true', Bool.not_eq_false', Bool.not_true, Bool.not_false] at phs51
           refine ql_g rfl rfl hs51 ?_
           refine ql_r (r_move rfl) rfl ?_
           refine ql_g rfl rfl hs51 ?_
           refine ql_r (r_move rfl) rfl ?_
           refine ql_g rfl rfl hs51 ?_
           refine ql_ixo (id := 27) encI _ rfl rfl rfl rfl sl37 (by omega) (by omega) rfl fun x54 hx54 => ?_
           try simp only [Int.toNat_natCast] at hx54
           try simp only [Int.toNat_natCast] at hx54
           refine ql_g rfl rfl hs51 ?_
           refine ql_r (r_ldw rfl (fun w1 hb1 hs1 hB1 => show Loads _ _ _ _ (.int .i64 x54) from ld_own (id := 27) hs1 rfl rfl ty3 hx54)) rfl ?_
           refine ql_g rfl rfl hs51 ?_
           refine ql_r (r_move rfl) rfl ?_
           refine ql_g rfl rfl hs51 ?_
           refine ql_r (r_move rfl) rfl ?_
           refine ql_g rfl rfl hs51 ?_
           refine ql_r (r_move rfl) rfl ?_
           refine ql_g rfl rfl hs51 ?_
           refine ql_ixo (id := 29) encI _ rfl rfl rfl rfl sl37 (by omega) (by omega) rfl fun x59 hx59 => ?_
           try simp only [Int.toNat_natCast] at hx59
           try simp only [Int.toNat_natCast] at hx59
           refine ql_g rfl rfl hs51 ?_
           refine ql_r (r_ldw rfl (fun w1 hb1 hs1 hB1 => show Loads _ _ _ _ (.int .i64 x59) from ld_own (id := 29) hs1 rfl rfl ty3 hx59)) rfl ?_
           refine ql_g rfl rfl hs51 ?_
           have h59 := (tab_get hx59).2
           rw [rr_eq hmi] at h59
           subst h59
           refine ql_ixo (id := 27) encI _ rfl rfl rfl rfl sl37 (by omega) (by omega) rfl fun x61 hx61 => ?_
           try simp only [Int.toNat_natCast] at hx61
           try simp only [Int.toNat_natCast] at hx61
           refine ql_g rfl rfl hs51 ?_
           refine ql_r (r_ldw rfl (fun w1 hb1 hs1 hB1 => show Loads _ _ _ _ (.int .i64 x61) from ld_own (id := 27) hs1 rfl rfl ty3 hx61)) rfl ?_
           refine ql_g rfl rfl hs51 ?_
           have h54 := (tab_get hx54).2
           have h61 := (tab_get hx61).2
           refine ql_r (r_lss rfl rfl) rfl ?_
           refine ql_r (r_pickF rfl hs51 rfl) rfl ?_
           refine ql_r (r_move rfl) rfl ?_
           refine ql_split (d := 65) rfl (fun hs65 => ?_) (fun hs65 => ?_)
           ·have phs65 := hs65; try simp only [decide_eq_true_eq, decide_eq_false_iff_not, Bool.not_eq_true', Bool.not_eq_false', Bool.not_true, Bool.not_false] at phs65
            refine ql_g rfl rfl hs65 ?_
            refine ql_r (r_fa (o' := 3) rfl fl26_3 rfl) rfl ?_
            refine ql_g rfl rfl hs65 ?_
            refine ql_r (r_ld (id := 2) rfl rfl rfl sc22) rfl ?_
            refine ql_g rfl rfl hs65 ?_
            refine ql_r (r_move rfl) rfl ?_
            refine ql_g rfl rfl hs65 ?_
            refine ql_r (r_move rfl) rfl ?_
            refine ql_g rfl rfl hs65 ?_
            refine ql_r (r_move rfl) rfl ?_
            refine ql_g rfl rfl hs65 ?_
            refine ql_call rfl rfl cb63 rfl (fun w1 hb1 hs1 hB1 => ref3_stands _ _ _ A.ss A.start most iN k _ (hA.s.at hb1 hB1) hok hmost (by omega) (by omega)) ?_
            refine ql_r (r_pickT rfl hs65 rfl) rfl ?_
            refine ql_nil (to_k0 (fun _ _ h => h) (hK29 _ _ _ _ _ ?_))
            clear hK29
            refine wp_cond' rfl (fun hc72 => ?_) (fun hc72 => ?_)
            ·refine wp_reg ?_
             refine ol_r (r_move rfl) rfl ?_
             refine ol_r (r_move rfl) rfl ?_
             refine ol_r (r_move rfl) rfl ?_
             refine ol_ixo (id := 29) encI _ rfl rfl rfl rfl sl37 (by omega) rfl fun x76 hx76 => ?_
             try simp only [Int.toNat_natCast] at hx76
             try simp only [Int.toNat_natCast] at hx76
             refine ol_storeRow (id := 29) _ _ _ rfl rfl rfl rfl sz3 (by omega) ?_
             refine ol_nil (to_k0 (fun _ _ h => h) (hK28 _ _ _ _ _ ?_))
             clear hK28
             refine wp_reg ?_
             refine ol_r (r_move rfl) rfl ?_
             refine ol_r (r_add rfl rfl (by omega)) rfl ?_
             refine ol_r (r_assign rfl) rfl ?_
             refine ol_nil (to_k0 (fun _ _ h => h) (hK25 (k + 1) _ _ ?_ ?_ (sub_cons rfl sub_nil) (sub_cons rfl (sub_cons rfl (sub_cons rfl (sub_cons rfl (sub_cons rfl (sub_cons rfl (sub_cons rfl (sub_cons rfl sub_nil)))))))) (by exact (subH_row rfl (by first | (dsimp only; first | (rw [Int.toNat_natCast]; exact congrArg encI.enc (rr_yes hmi hmn hk1 (.inl (by omega)) hc72).symm) | (rw [Int.toNat_natCast]; exact congrArg encI.enc (rr_yes hmi hmn hk1 (.inr (by omega)) hc72).symm) | exact congrArg encI.enc (rr_no hmi hk1 (fun h => absurd (h.2.symm.trans hc72) (by decide))).symm | exact congrArg encI.enc (rr_no hmi hk1 (fun h => by have := h.1; omega)).symm; done) | (first | (rw [Int.toNat_natCast]; exact congrArg encI.enc (rr_yes hmi hmn hk1 (.inl (by omega)) hc72).symm) | (rw [Int.toNat_natCast]; exact congrArg encI.enc (rr_yes hmi hmn hk1 (.inr (by omega)) hc72).symm) | exact congrArg encI.enc (rr_no hmi hk1 (fun h => absurd (h.2.symm.trans hc72) (by decide))).symm | exact congrArg encI.enc (rr_no hmi hk1 (fun h => by have := h.1; omega)).symm; done) | (dsimp only; done)) subH_nil)) (subH_same rfl (subH_same rfl subH_nil))))
             ·try dsimp only
              omega
             ·try dsimp only
              omega
            ·refine wp_skip' (to_k0 (fun _ _ h => h) (hK28 _ _ _ _ _ ?_))
             clear hK28
             refine wp_reg ?_
             refine ol_r (r_move rfl) rfl ?_
             refine ol_r (r_add rfl rfl (by omega)) rfl ?_
             refine ol_r (r_assign rfl) rfl ?_
             refine ol_nil (to_k0 (fun _ _ h => h) (hK25 (k + 1) _ _ ?_ ?_ (sub_cons rfl sub_nil) (sub_cons rfl (sub_cons rfl (sub_cons rfl (sub_cons rfl (sub_cons rfl (sub_cons rfl (sub_cons rfl (sub_cons rfl sub_nil)))))))) (by exact (subH_row rfl (by first | (dsimp only; first | (rw [Int.toNat_natCast]; exact congrArg encI.enc (rr_yes hmi hmn hk1 (.inl (by omega)) hc72).symm) | (rw [Int.toNat_natCast]; exact congrArg encI.enc (rr_yes hmi hmn hk1 (.inr (by omega)) hc72).symm) | exact congrArg encI.enc (rr_no hmi hk1 (fun h => absurd (h.2.symm.trans hc72) (by decide))).symm | exact congrArg encI.enc (rr_no hmi hk1 (fun h => by have := h.1; omega)).symm; done) | (first | (rw [Int.toNat_natCast]; exact congrArg encI.enc (rr_yes hmi hmn hk1 (.inl (by omega)) hc72).symm) | (rw [Int.toNat_natCast]; exact congrArg encI.enc (rr_yes hmi hmn hk1 (.inr (by omega)) hc72).symm) | exact congrArg encI.enc (rr_no hmi hk1 (fun h => absurd (h.2.symm.trans hc72) (by decide))).symm | exact congrArg encI.enc (rr_no hmi hk1 (fun h => by have := h.1; omega)).symm; done) | (dsimp only; done)) subH_nil)) (subH_same rfl (subH_same rfl subH_nil))))
             ·try dsimp only
              omega
             ·try dsimp only
              omega
           ·have phs65 := hs65; try simp only [decide_eq_true_eq, decide_eq_false_iff_not, Bool.not_eq_true', Bool.not_eq_false', Bool.not_true, Bool.not_false] at phs65
            refine ql_s rfl rfl hs65 rfl ?_
            refine ql_s rfl rfl hs65 rfl ?_
            refine ql_s rfl rfl hs65 rfl ?_
            refine ql_s rfl rfl hs65 rfl ?_
            refine ql_s rfl rfl hs65 rfl ?_
            refine ql_s rfl rfl hs65 rfl ?_
            refine ql_r (r_pickF rfl hs65 rfl) rfl ?_
            refine ql_nil (to_k0 (fun _ _ h => h) (hK29 _ _ _ _ _ ?_))
            clear hK29
            refine wp_condF rfl ?_
            refine wp_skip' (to_k0 (fun _ _ h => h) (hK28 _ _ _ _ _ ?_))
            clear hK28
            refine wp_reg ?_
            refine ol_r (r_move rfl) rfl ?_
            refine ol_r (r_add rfl rfl (by omega)) rfl ?_
            refine ol_r (r_assign rfl) rfl ?_
            refine ol_nil (to_k0 (fun _ _ h => h) (hK25 (k + 1) _ _ ?_ ?_ (sub_cons rfl sub_nil) (sub_cons rfl (sub_cons rfl (sub_cons rfl (sub_cons rfl (sub_cons rfl (sub_cons rfl (sub_cons rfl (sub_cons rfl sub_nil)))))))) (by exact (subH_row rfl (by first | (rw [Int.toNat_natCast]; exact congrArg encI.enc (rr_yes hmi hmn hk1 (.inl (by omega)) hc72).symm) | (rw [Int.toNat_natCast]; exact congrArg encI.enc (rr_yes hmi hmn hk1 (.inr (by omega)) hc72).symm) | exact congrArg encI.enc (rr_no hmi hk1 (fun h => absurd (h.2.symm.trans hc72) (by decide))).symm | exact congrArg encI.enc (rr_no hmi hk1 (fun h => by have := h.1; omega)).symm) subH_nil)) (subH_same rfl (subH_same rfl subH_nil))))
            ·try dsimp only
             omega
            ·try dsimp only
             omega
         ·refine wp_exit' (to_k0 (fun _ _ h => h) (hK23 _ _ _ _ _ ?_))
          clear hK23
          refine wp_reg ?_
          refine ol_r (r_move rfl) rfl ?_
          refine ol_r (r_move rfl) rfl ?_
          refine ol_r (r_move rfl) rfl ?_
          refine ol_r (r_move rfl) rfl ?_
          refine ol_r (r_move rfl) rfl ?_
          refine ol_ixo (id := 29) encI _ rfl rfl rfl rfl sl37 (by omega) rfl fun x82 hx82 => ?_
          try simp only [Int.toNat_natCast] at hx82
          try simp only [Int.toNat_natCast] at hx82
          refine ol_r (r_ldw rfl (fun w1 hb1 hs1 hB1 => show Loads _ _ _ _ (.int .i64 x82) from ld_own (id := 29) hs1 rfl rfl ty3 hx82)) rfl ?_
          obtain ⟨kx, q1, q2, q3, _⟩ := few_all hEn hmi hmn
          have h82 := (tab_get hx82).2
          rw [rr_eq hmi, show k - (iN + 1) = m + 1 by omega, q1] at h82
          subst h82
          refine ol_ixo (id := 27) encI _ rfl rfl rfl rfl sl37 (by omega) rfl fun x84 hx84 => ?_
          try simp only [Int.toNat_natCast] at hx84
          try simp only [Int.toNat_natCast] at hx84
          refine ol_r (r_ldw rfl (fun w1 hb1 hs1 hB1 => show Loads _ _ _ _ (.int .i64 x84) from ld_own (id := 27) hs1 rfl rfl ty3 hx84)) rfl ?_
          have h84 := (tab_get hx84).2
          try rw [Int.toNat_natCast] at h84
          have h84b := manyL_bd (en := enoughB A.ss (most * most)) (n := A.ss.length) m kx
          refine ol_r (r_add rfl rfl (by omega)) rfl ?_
          refine ol_ixo (id := 27) encI _ rfl rfl rfl rfl sl37 (by omega) rfl fun x87 hx87 => ?_
          try simp only [Int.toNat_natCast] at hx87
          try simp only [Int.toNat_natCast] at hx87
          refine ol_storeRow (id := 27) _ _ _ rfl rfl rfl rfl sz3 (by omega) ?_
          refine ol_nil (to_k0 (fun _ _ h => h) (hK21 _ _ _ _ _ ?_))
          clear hK21
          refine wp_reg ?_
          refine ol_r (r_move rfl) rfl ?_
          refine ol_r (r_sub rfl rfl (by omega)) rfl ?_
          refine ol_r (r_assign rfl) rfl ?_
          refine ol_nil (to_k0 (fun _ _ h => h) (hK18 ((_, m + 1)) _ _ ?_ ?_ (sub_cons rfl sub_nil) (sub_cons rfl (sub_cons rfl (sub_cons rfl (sub_cons rfl (sub_cons rfl (sub_cons rfl (sub_cons rfl sub_nil))))))) (by exact (subH_row rfl (by first | (dsimp only; first | (rw [Int.toNat_natCast]; exact congrArg encI.enc (ss_done hmi hmn (by rw [q1, Int.toNat_natCast, h84])).symm) | exact congrArg encI.enc (rr_done hmi hmn (by omega)).symm; done) | (first | (rw [Int.toNat_natCast]; exact congrArg encI.enc (ss_done hmi hmn (by rw [q1, Int.toNat_natCast, h84])).symm) | exact congrArg encI.enc (rr_done hmi hmn (by omega)).symm; done) | (dsimp only; done)) (subH_row rfl (by dsimp only; first | (rw [Int.toNat_natCast]; exact congrArg encI.enc (ss_done hmi hmn (by rw [q1, Int.toNat_natCast, h84])).symm) | exact congrArg encI.enc (rr_done hmi hmn (by omega)).symm) subH_nil))) (subH_same rfl subH_nil)))
          ·try dsimp only
           exact ⟨by omega, by omega⟩
          ·try dsimp only
           omega
       ·refine wp_exit' (to_k0 (fun _ _ h => h) (hK16 _ _ _ _ _ ?_))
        clear hK16
        refine wp_seq' fun K30 hK30 => ?_
        refine wp_reg ?_
        refine ol_nilrow 12 3 1 ?_
        refine ol_r (r_assign rfl) rfl ?_
        refine ol_nil (to_k0 (fun _ _ h => h) (hK30 _ _ _ _ _ ?_))
        clear hK30
        refine wp_seq' fun K31 hK31 => ?_
        refine wp_seq' fun K32 hK32 => ?_
        refine wp_reg ?_
        first
          | subst h93
          | skip
        refine ol_r (r_assign rfl) rfl ?_
        refine ol_nil (to_k0 (fun _ _ h => h) (hK32 _ _ _ _ _ ?_))
        clear hK32
        refine wp_block' ?_
        apply wp_loopM (σ := List Int × Nat × Nat × Option Addr × Nat) (fun s => s.1.length = s.2.2.1 ∧ s.2.2.1 ≤ A.ss.length ∧ s.2.2.1 ≤ s.2.1 ∧ ∃ f, A.ss.length ≤ s.2.1 + f ∧ s.1 ++ chainF (enoughB A.ss (most * most)) A.ss.length f s.2.1 = chainF (enoughB A.ss (most * most)) A.ss.length (A.ss.length + 1) 0) (fun s => [(13, .int .i64 s.2.1), (12, .slice s.2.2.2.1 s.2.2.1 s.2.2.2.2)]) [(4, _), (5, _), (7, _), (9, _)] (fun s => [(12, .row s.2.2.2.1 s.2.2.1 s.2.2.2.2 (encI.enc s.1) 3 1)]) [(2, _), (27, _), (29, _)] (fun s => A.ss.length + 1 - s.2.1) (([], 0, 0, none, 0))
        ·try dsimp only
         exact ⟨rfl, Nat.zero_le _, Nat.zero_le _, A.ss.length + 1, by omega, rfl⟩
        ·exact (sub_cons rfl (sub_cons rfl sub_nil))
        ·exact (sub_cons rfl (sub_cons rfl (sub_cons rfl (sub_cons rfl sub_nil))))
        ·exact (subH_row rfl (by dsimp only; rfl) subH_nil)
        ·exact (subH_same rfl (subH_same rfl (subH_same rfl subH_nil)))
        ·rintro ⟨ys, i3, cnt, oa, oc⟩ ⟨hcnt, hcn, hci, f, hf, hT⟩
         dsimp only at hcnt hcn hci hf hT ⊢
         intro K33 hK33
         refine wp_seq' fun K34 hK34 => ?_
         refine wp_seq' fun K35 hK35 => ?_
         refine wp_reg ?_
         refine ol_r (r_move rfl) rfl ?_
         refine ol_r (r_move rfl) rfl ?_
         refine ol_r (r_lss rfl rfl) rfl ?_
         refine ol_nil (to_k0 (fun _ _ h => h) (hK35 _ _ _ _ _ ?_))
         clear hK35
         refine wp_condD rfl (fun hc90 => ?_) (fun hc90 => ?_)
         ·refine wp_skip' (to_k0 (fun _ _ h => h) (hK34 _ _ _ _ _ ?_))
          clear hK34
          refine wp_seq' fun K36 hK36 => ?_
          refine wp_block' ?_
          refine wp_seq' fun K37 hK37 => ?_
          refine wp_reg ?_
          obtain ⟨f', rfl⟩ : ∃ f', f = f' + 1 := ⟨f - 1, by omega⟩
          rw [chain_next (by omega)] at hT
          refine ol_r (r_move rfl) rfl ?_
          refine ol_r (r_move rfl) rfl ?_
          refine ol_bs1 97 rfl rfl rw37 rfl rfl rfl fun a97 => ?_
          refine ol_append1 (id := 12) (id2 := 97) rfl rfl rfl rfl rfl rw37 (by omega) rfl fun a98 c98 => ?_
          refine ol_r (r_assign rfl) rfl ?_
          refine ol_nil (to_k0 (fun _ _ h => h) (hK37 _ _ _ _ _ ?_))
          clear hK37
          refine wp_seq' fun K38 hK38 => ?_
          refine wp_reg ?_
          refine ol_r (r_move rfl) rfl ?_
          refine ol_r (r_move rfl) rfl ?_
          refine ol_r (r_sub rfl rfl (by omega)) rfl ?_
          refine ol_r (r_eql rfl rfl) rfl ?_
          refine ol_nil (to_k0 (fun _ _ h => h) (hK38 _ _ _ _ _ ?_))
          clear hK38
          refine wp_condD rfl (fun hc102 => ?_) (fun hc102 => ?_)
          ·refine wp_exit' (to_k0 (fun _ _ h => h) (hK31 _ _ _ _ _ ?_))
           clear hK31
           refine wp_seq' fun K39 hK39 => ?_
           refine wp_reg ?_
           refine ol_r (r_move rfl) rfl ?_
           refine ol_r (r_assign rfl) rfl ?_
           refine ol_r (r_assign rfl) rfl ?_
           refine ol_nil (to_k0 (fun _ _ h => h) (hK39 _ _ _ _ _ ?_))
           clear hK39
           refine hQ.ret (rvs2 (rv_t rfl) (rv_t rfl)) (fun _ _ h => h) fun w hb hs hB hkd => ?_
           have h := fewestR_0 (a := A.d) (most := most) (fewErr_ok h0 hmost (by show ¬(300 : Int) < (A.ss.length : Int); omega))
           have hT2 : encI.enc (fewestL A.ss (most * most)) = _ := congrArg encI.enc hT.symm
           rw [h]
           first
             | (rw [chainF_stop (by omega), List.append_nil] at hT2
                exact ⟨_, _, _, rfl, hb, by show World.ownsRow _ _ _ _ _ _ (encI.enc (fewestL A.ss (most * most))); rw [hT2]; exact hs.ok 12 _ rfl⟩)
             | (rw [if_neg (by omega), Enc.enc_append] at hT2
                exact ⟨_, _, _, rfl, hb, by show World.ownsRow _ _ _ _ _ _ (encI.enc (fewestL A.ss (most * most))); rw [hT2]; exact hs.ok 12 _ rfl⟩)
          ·refine wp_skip' (to_k0 (fun _ _ h => h) (hK36 _ _ _ _ _ ?_))
           clear hK36
           refine wp_reg ?_
           refine ol_r (r_move rfl) rfl ?_
           refine ol_r (r_move rfl) rfl ?_
           refine ol_ixo (id := 29) encI _ rfl rfl rfl rfl sl37 (by omega) rfl fun x93 hx93 => ?_
           try simp only [Int.toNat_natCast] at hx93
           try simp only [Int.toNat_natCast] at hx93
           have hmE : m = A.ss.length - 1 := by omega
           have h93 := (tab_get hx93).2
           rw [hmE, nx_is (by omega)] at h93
           have hnb := nx_bd (ss := A.ss) (M := most * most) (i := i3) (by omega)
           refine ol_r (r_ldw rfl (fun w1 hb1 hs1 hB1 => show Loads _ _ _ _ (.int .i64 x93) from ld_own (id := 29) hs1 rfl rfl ty3 hx93)) rfl ?_
           first
             | subst h93
             | skip
           refine ol_r (r_assign rfl) rfl ?_
           refine ol_nil (to_k0 (fun _ _ h => h) (hK33 ((ys ++ [(i3 : Int)], nxN A.ss (most * most) i3, _, _, _)) _ _ ?_ ?_ (sub_cons rfl (sub_cons rfl sub_nil)) (sub_cons rfl (sub_cons rfl (sub_cons rfl (sub_cons rfl sub_nil)))) (by exact (subH_row rfl (by dsimp only; rw [Enc.enc_append]; rfl) subH_nil)) (subH_same rfl (subH_same rfl (subH_same rfl subH_nil)))))
           ·try dsimp only
            exact ⟨by simp [hcnt], by omega, by omega, f', by omega, by rw [if_pos (by omega)] at hT; rw [← hT, List.append_assoc]; rfl⟩
           ·try dsimp only
            omega
         ·refine wp_exit' (to_k0 (fun _ _ h => h) (hK31 _ _ _ _ _ ?_))
          clear hK31
          refine wp_seq' fun K40 hK40 => ?_
          refine wp_reg ?_
          refine ol_r (r_move rfl) rfl ?_
          refine ol_r (r_assign rfl) rfl ?_
          refine ol_r (r_assign rfl) rfl ?_
          refine ol_nil (to_k0 (fun _ _ h => h) (hK40 _ _ _ _ _ ?_))
          clear hK40
          refine hQ.ret (rvs2 (rv_t rfl) (rv_t rfl)) (fun _ _ h => h) fun w hb hs hB hkd => ?_
          have h := fewestR_0 (a := A.d) (most := most) (fewErr_ok h0 hmost (by show ¬(300 : Int) < (A.ss.length : Int); omega))
          have hT2 : encI.enc (fewestL A.ss (most * most)) = _ := congrArg encI.enc hT.symm
          rw [h]
          first
            | (rw [chainF_stop (by omega), List.append_nil] at hT2
               exact ⟨_, _, _, rfl, hb, by show World.ownsRow _ _ _ _ _ _ (encI.enc (fewestL A.ss (most * most))); rw [hT2]; exact hs.ok 12 _ rfl⟩)
            | (rw [if_neg (by omega), Enc.enc_append] at hT2
               exact ⟨_, _, _, rfl, hb, by show World.ownsRow _ _ _ _ _ _ (encI.enc (fewestL A.ss (most * most))); rw [hT2]; exact hs.ok 12 _ rfl⟩)
     ·refine ol_make encI (0) 29 rfl rfl rw37 z3 rfl rfl (by omega) rfl fun a29 => ?_
      refine ol_nil (to_k0 (fun _ _ h => h) (hK14 _ _ ⟨.inr (by repeat' first | exact subH_nil | refine subH_same rfl ?_ | (refine subH_blk rfl (by repeat' first | exact sub_nil | refine sub_cons rfl ?_) ?_)), trivial⟩ ?_))
      clear hK14
      refine aq_one (i := 1) (by kernel_rfl) rfl fun K15 hK15 => ?_
      refine ol_make encI (0) 27 rfl rfl rw37 z3 rfl rfl (by omega) rfl fun a27 => ?_
      refine ol_nil (to_k0 (fun _ _ h => h) (hK15 _ _ ⟨.inr (by repeat' first | exact subH_nil | refine subH_same rfl ?_ | (refine subH_blk rfl (by repeat' first | exact sub_nil | refine sub_cons rfl ?_) ?_)), trivial⟩ ?_))
      clear hK15
      refine aq_r 4 999 rfl (by kernel_rfl) (by kernel_rfl) (by kernel_rfl) (.head _) (by kernel_rfl) (by kernel_rfl) rfl (r_assign rfl) ?_
      refine aq_r 5 999 rfl (by kernel_rfl) (by kernel_rfl) (by kernel_rfl) (.head _) (by kernel_rfl) (by kernel_rfl) rfl (r_assign rfl) ?_
      refine aq_done (by kernel_rfl) ?_
      refine (to_k0 (fun _ _ h => h) (hK13 _ _ _ _ _ ?_))
      clear hK13
      refine wp_seq' fun K16 hK16 => ?_
      refine wp_seq' fun K17 hK17 => ?_
      refine wp_reg ?_
      refine ol_r (r_move rfl) rfl ?_
      refine ol_r (r_sub rfl rfl (by omega)) rfl ?_
      refine ol_r (r_assign rfl) rfl ?_
      refine ol_nil (to_k0 (fun _ _ h => h) (hK17 _ _ _ _ _ ?_))
      clear hK17
      refine wp_block' ?_
      apply wp_loopM (σ := Int × Nat) (fun s => s.1 = (A.ss.length : Int) - 2 - s.2 ∧ s.2 ≤ A.ss.length - 1) (fun s => [(10, .int .i64 s.1)]) [(1, _), (2, _), (4, _), (5, _), (7, _), (8, _), (9, _)] (fun s => [(27, .row a27 A.sn A.sn (encI.enc (tab A.ss.length (manyL (enoughB A.ss (most * most)) A.ss.length s.2))) 3 1), (29, .row a29 A.sn A.sn (encI.enc (tab A.ss.length (nextF (enoughB A.ss (most * most)) A.ss.length s.2))) 3 1)]) [(2, _)] (fun s => A.ss.length - s.2) (((A.sn : Int) - 2, 0))
      ·try dsimp only
       exact ⟨by omega, Nat.zero_le _⟩
      ·exact (sub_cons rfl sub_nil)
      ·exact (sub_cons rfl (sub_cons rfl (sub_cons rfl (sub_cons rfl (sub_cons rfl (sub_cons rfl (sub_cons rfl sub_nil)))))))
      ·exact (subH_row rfl (by dsimp only; first | rfl | (rw [← hsn, tab_zero]; rfl)) (subH_row rfl (by dsimp only; first | rfl | (rw [← hsn, tab_zero]; rfl)) subH_nil))
      ·exact (subH_same rfl subH_nil)
      ·rintro ⟨i, m⟩ ⟨hi, hm⟩
       dsimp only at hi hm ⊢
       intro K18 hK18
       refine wp_seq' fun K19 hK19 => ?_
       refine wp_seq' fun K20 hK20 => ?_
       refine wp_reg ?_
       refine ol_r (r_move rfl) rfl ?_
       refine ol_r (r_geq rfl rfl) rfl ?_
       refine ol_nil (to_k0 (fun _ _ h => h) (hK20 _ _ _ _ _ ?_))
       clear hK20
       refine wp_condD rfl (fun hc33 => ?_) (fun hc33 => ?_)
       ·refine wp_skip' (to_k0 (fun _ _ h => h) (hK19 _ _ _ _ _ ?_))
        clear hK19
        refine wp_seq' fun K21 hK21 => ?_
        refine wp_block' ?_
        refine wp_seq' fun K22 hK22 => ?_
        refine wp_reg ?_
        obtain ⟨iN, hiN⟩ := Int.eq_ofNat_of_zero_le (show 0 ≤ i by omega)
        subst hiN
        have hmn : m + 1 < A.ss.length := by omega
        have hmi : A.ss.length - 2 - m = iN := by omega
        refine ol_r (r_move rfl) rfl ?_
        refine ol_r (r_move rfl) rfl ?_
        refine ol_ixo (id := 29) encI _ rfl rfl rfl rfl sl37 (by omega) rfl fun x38 hx38 => ?_
        try simp only [Int.toNat_natCast] at hx38
        try simp only [Int.toNat_natCast] at hx38
        refine ol_storeRow (id := 29) _ _ _ rfl rfl rfl rfl sz3 (by omega) ?_
        refine ol_nil (to_k0 (fun _ _ h => h) (hK22 _ _ _ _ _ ?_))
        clear hK22
        refine wp_seq' fun K23 hK23 => ?_
        refine wp_seq' fun K24 hK24 => ?_
        refine wp_reg ?_
        refine ol_r (r_move rfl) rfl ?_
        refine ol_r (r_add rfl rfl (by omega)) rfl ?_
        refine ol_r (r_assign rfl) rfl ?_
        refine ol_nil (to_k0 (fun _ _ h => h) (hK24 _ _ _ _ _ ?_))
        clear hK24
        refine wp_block' ?_
        apply wp_loopM (σ := Nat) (fun s => iN + 1 ≤ s ∧ s ≤ A.ss.length) (fun s => [(11, .int .i64 s)]) [(1, _), (2, _), (4, _), (5, _), (7, _), (8, _), (9, _), (10, _)] (fun s => [(29, .row a29 A.sn A.sn (encI.enc (tab A.ss.length (rrL (enoughB A.ss (most * most)) A.ss.length m (s - (iN + 1))))) 3 1)]) [(2, _), (27, _)] (fun s => A.ss.length - s) (iN + 1)
        ·try dsimp only
         exact ⟨Nat.le_refl _, by omega⟩
        ·exact (sub_cons rfl sub_nil)
        ·exact (sub_cons rfl (sub_cons rfl (sub_cons rfl (sub_cons rfl (sub_cons rfl (sub_cons rfl (sub_cons rfl (sub_cons rfl sub_nil))))))))
        ·exact (subH_row rfl (by rw [Int.toNat_natCast]; exact congrArg encI.enc (rr_zero hmi hmn).symm) subH_nil)
        ·exact (subH_same rfl (subH_same rfl subH_nil))
        ·rintro k ⟨hk1, hk2⟩
         intro K25 hK25
         refine wp_seq' fun K26 hK26 => ?_
         refine wp_seq' fun K27 hK27 => ?_
         refine wp_reg ?_
         refine ol_r (r_move rfl) rfl ?_
         refine ol_r (r_move rfl) rfl ?_
         refine ol_r (r_lss rfl rfl) rfl ?_
         refine ol_nil (to_k0 (fun _ _ h => h) (hK27 _ _ _ _ _ ?_))
         clear hK27
         refine wp_condD rfl (fun hc43 => ?_) (fun hc43 => ?_)
         ·refine wp_skip' (to_k0 (fun _ _ h => h) (hK26 _ _ _ _ _ ?_))
          clear hK26
          refine wp_seq' fun K28 hK28 => ?_
          refine wp_block' ?_
          refine wp_seq' fun K29 hK29 => ?_
          refine wp_regq (by kernel_rfl) (by kernel_rfl) ?_
          have htl := tab_len A.ss.length (manyL (enoughB A.ss (most * most)) A.ss.length m)
          have htl2 := tab_len A.ss.length (rrL (enoughB A.ss (most * most)) A.ss.length m (k - (iN + 1)))
          have hfr := fewR_rg (en := enoughB A.ss (most * most)) (mf := manyL (enoughB A.ss (most * most)) A.ss.length m) hk1
          refine ql_r (r_move rfl) rfl ?_
          refine ql_r (r_move rfl) rfl ?_
          refine ql_ixo (id := 29) encI _ rfl rfl rfl rfl sl37 (by omega) (by omega) rfl fun x48 hx48 => ?_
          try simp only [Int.toNat_natCast] at hx48
          try simp only [Int.toNat_natCast] at hx48
          refine ql_r (r_ldw rfl (fun w1 hb1 hs1 hB1 => show Loads _ _ _ _ (.int .i64 x48) from ld_own (id := 29) hs1 rfl rfl ty3 hx48)) rfl ?_
          have h48 := (tab_get hx48).2
          rw [rr_eq hmi] at h48
          subst h48
          refine ql_r (r_lss rfl rfl) rfl ?_
          refine ql_r (r_move rfl) rfl ?_
          refine ql_split (d := 51) rfl (fun hs51 => ?_) (fun hs51 => ?_)
          ·have phs51 := hs51; try simp only [decide_eq_true_eq, decide_eq_false_iff_not, Bool.not_eq_true', Bool.not_eq_false', Bool.not_true, Bool.not_false] at phs51
           refine ql_s rfl rfl hs51 rfl ?_
           refine ql_s rfl rfl hs51 rfl ?_
           refine ql_s rfl rfl hs51 rfl ?_
           refine ql_s rfl rfl hs51 rfl ?_
           refine ql_s rfl rfl hs51 rfl ?_
           refine ql_s rfl rfl hs51 rfl ?_
           refine ql_s rfl rfl hs51 rfl ?_
           refine ql_s rfl rfl hs51 rfl ?_
           refine ql_s rfl rfl hs51 rfl ?_
           refine ql_s rfl rfl hs51 rfl ?_
           refine ql_s rfl rfl hs51 rfl ?_
           refine ql_s rfl rfl hs51 rfl ?_
           refine ql_r (r_pickT rfl hs51 rfl) rfl ?_
           refine ql_r (r_move rfl) rfl ?_
           refine ql_g rfl rfl rfl ?_
           refine ql_r (r_fa (o' := 3) rfl fl26_3 rfl) rfl ?_
           refine ql_g rfl rfl rfl ?_
           refine ql_r (r_ld (id := 2) rfl rfl rfl sc22) rfl ?_
           refine ql_g rfl rfl rfl ?_
           refine ql_r (r_move rfl) rfl ?_
           refine ql_g rfl rfl rfl ?_
           refine ql_r (r_move rfl) rfl ?_
           refine ql_g rfl rfl rfl ?_
           refine ql_r (r_move rfl) rfl ?_
           refine ql_g rfl rfl rfl ?_
           refine ql_call rfl rfl cb63 rfl (fun w1 hb1 hs1 hB1 => ref3_stands _ _ _ A.ss A.start most iN k _ (hA.s.at hb1 hB1) hok hmost (by omega) (by omega)) ?_
           refine ql_r (r_pickT rfl rfl rfl) rfl ?_
           refine ql_nil (to_k0 (fun _ _ h => h) (hK29 _ _ _ _ _ ?_))
           clear hK29
           refine wp_cond' rfl (fun hc72 => ?_) (fun hc72 => ?_)
           ·refine wp_reg ?_
            refine ol_r (r_move rfl) rfl ?_
            refine ol_r (r_move rfl) rfl ?_
            refine ol_r (r_move rfl) rfl ?_
            refine ol_ixo (id := 29) encI _ rfl rfl rfl rfl sl37 (by omega) rfl fun x76 hx76 => ?_
            try simp only [Int.toNat_natCast] at hx76
            try simp only [Int.toNat_natCast] at hx76
            refine ol_storeRow (id := 29) _ _ _ rfl rfl rfl rfl sz3 (by omega) ?_
            refine ol_nil (to_k0 (fun _ _ h => h) (hK28 _ _ _ _ _ ?_))
            clear hK28
            refine wp_reg ?_
            refine ol_r (r_move rfl) rfl ?_
            refine ol_r (r_add rfl rfl (by omega)) rfl ?_
            refine ol_r (r_assign rfl) rfl ?_
            refine ol_nil (to_k0 (fun _ _ h => h) (hK25 (k + 1) _ _ ?_ ?_ (sub_cons rfl sub_nil) (sub_cons rfl (sub_cons rfl (sub_cons rfl (sub_cons rfl (sub_cons rfl (sub_cons rfl (sub_cons rfl (sub_cons rfl sub_nil)))))))) (by exact (subH_row rfl (by first | (dsimp only; first | (rw [Int.toNat_natCast]; exact congrArg encI.enc (rr_yes hmi hmn hk1 (.inl (by omega)) hc72).symm) | (rw [Int.toNat_natCast]; exact congrArg encI.enc (rr_yes hmi hmn hk1 (.inr (by omega)) hc72).symm) | exact congrArg encI.enc (rr_no hmi hk1 (fun h => absurd (h.2.symm.trans hc72) (by decide))).symm | exact congrArg encI.enc (rr_no hmi hk1 (fun h => by have := h.1; omega)).symm; done) | (first | (rw [Int.toNat_natCast]; exact congrArg encI.enc (rr_yes hmi hmn hk1 (.inl (by omega)) hc72).symm) | (rw [Int.toNat_natCast]; exact congrArg encI.enc (rr_yes hmi hmn hk1 (.inr (by omega)) hc72).symm) | exact congrArg encI.enc (rr_no hmi hk1 (fun h => absurd (h.2.symm.trans hc72) (by decide))).symm | exact congrArg encI.enc (rr_no hmi hk1 (fun h => by have := h.1; omega)).symm; done) | (dsimp only; done)) subH_nil)) (subH_same rfl (subH_same rfl subH_nil))))
            ·try dsimp only
             omega
            ·try dsimp only
             omega
           ·refine wp_skip' (to_k0 (fun _ _ h => h) (hK28 _ _ _ _ _ ?_))
            clear hK28
            refine wp_reg ?_
            refine ol_r (r_move rfl) rfl ?_
            refine ol_r (r_add rfl rfl (by omega)) rfl ?_
            refine ol_r (r_assign rfl) rfl ?_
            refine ol_nil (to_k0 (fun _ _ h => h) (hK25 (k + 1) _ _ ?_ ?_ (sub_cons rfl sub_nil) (sub_cons rfl (sub_cons rfl (sub_cons rfl (sub_cons rfl (sub_cons rfl (sub_cons rfl (sub_cons rfl (sub_cons rfl sub_nil)))))))) (by exact (subH_row rfl (by first | (dsimp only; first | (rw [Int.toNat_natCast]; exact congrArg encI.enc (rr_yes hmi hmn hk1 (.inl (by omega)) hc72).symm) | (rw [Int.toNat_natCast]; exact congrArg encI.enc (rr_yes hmi hmn hk1 (.inr (by omega)) hc72).symm) | exact congrArg encI.enc (rr_no hmi hk1 (fun h => absurd (h.2.symm.trans hc72) (by decide))).symm | exact congrArg encI.enc (rr_no hmi hk1 (fun h => by have := h.1; omega)).symm; done) | (first | (rw [Int.toNat_natCast]; exact congrArg encI.enc (rr_yes hmi hmn hk1 (.inl (by omega)) hc72).symm) | (rw [Int.toNat_natCast]; exact congrArg encI.enc (rr_yes hmi hmn hk1 (.inr (by omega)) hc72).symm) | exact congrArg encI.enc (rr_no hmi hk1 (fun h => absurd (h.2.symm.trans hc72) (by decide))).symm | exact congrArg encI.enc (rr_no hmi hk1 (fun h => by have := h.1; omega)).symm; done) | (dsimp only; done)) subH_nil)) (subH_same rfl (subH_same rfl subH_nil))))
            ·try dsimp only
             omega
            ·try dsimp only
             omega
          ·have phs51 := hs51; try simp only [decide_eq_true_eq, decide_eq_false_iff_not, Bool.not_eq_true', Bool.not_eq_false', Bool.not_true, Bool.not_false] at phs51
           refine ql_g rfl rfl hs51 ?_
           refine ql_r (r_move rfl) rfl ?_
           refine ql_g rfl rfl hs51 ?_
           refine ql_r (r_move rfl) rfl ?_
           refine ql_g rfl rfl hs51 ?_
           refine ql_ixo (id := 27) encI _ rfl rfl rfl rfl sl37 (by omega) (by omega) rfl fun x54 hx54 => ?_
           try simp only [Int.toNat_natCast] at hx54
           try simp only [Int.toNat_natCast] at hx54
           refine ql_g rfl rfl hs51 ?_
           refine ql_r (r_ldw rfl (fun w1 hb1 hs1 hB1 => show Loads _ _ _ _ (.int .i64 x54) from ld_own (id := 27) hs1 rfl rfl ty3 hx54)) rfl ?_
           refine ql_g rfl rfl hs51 ?_
           refine ql_r (r_move rfl) rfl ?_
           refine ql_g rfl rfl hs51 ?_
           refine ql_r (r_move rfl) rfl ?_
           refine ql_g rfl rfl hs51 ?_
           refine ql_r (r_move rfl) rfl ?_
           refine ql_g rfl rfl hs51 ?_
           refine ql_ixo (id := 29) encI _ rfl rfl rfl rfl sl37 (by omega) (by omega) rfl fun x59 hx59 => ?_
           try simp only [Int.toNat_natCast] at hx59
           try simp only [Int.toNat_natCast] at hx59
           refine ql_g rfl rfl hs51 ?_
           refine ql_r (r_ldw rfl (fun w1 hb1 hs1 hB1 => show Loads _ _ _ _ (.int .i64 x59) from ld_own (id := 29) hs1 rfl rfl ty3 hx59)) rfl ?_
           refine ql_g rfl rfl hs51 ?_
           have h59 := (tab_get hx59).2
           rw [rr_eq hmi] at h59
           subst h59
           refine ql_ixo (id := 27) encI _ rfl rfl rfl rfl sl37 (by omega) (by omega) rfl fun x61 hx61 => ?_
           try simp only [Int.toNat_natCast] at hx61
           try simp only [Int.toNat_natCast] at hx61
           refine ql_g rfl rfl hs51 ?_
           refine ql_r (r_ldw rfl (fun w1 hb1 hs1 hB1 => show Loads _ _ _ _ (.int .i64 x61) from ld_own (id := 27) hs1 rfl rfl ty3 hx61)) rfl ?_
           refine ql_g rfl rfl hs51 ?_
           have h54 := (tab_get hx54).2
           have h61 := (tab_get hx61).2
           refine ql_r (r_lss rfl rfl) rfl ?_
           refine ql_r (r_pickF rfl hs51 rfl) rfl ?_
           refine ql_r (r_move rfl) rfl ?_
           refine ql_split (d := 65) rfl (fun hs65 => ?_) (fun hs65 => ?_)
           ·have phs65 := hs65; try simp only [decide_eq_true_eq, decide_eq_false_iff_not, Bool.not_eq_true', Bool.not_eq_false', Bool.not_true, Bool.not_false] at phs65
            refine ql_g rfl rfl hs65 ?_
            refine ql_r (r_fa (o' := 3) rfl fl26_3 rfl) rfl ?_
            refine ql_g rfl rfl hs65 ?_
            refine ql_r (r_ld (id := 2) rfl rfl rfl sc22) rfl ?_
            refine ql_g rfl rfl hs65 ?_
            refine ql_r (r_move rfl) rfl ?_
            refine ql_g rfl rfl hs65 ?_
            refine ql_r (r_move rfl) rfl ?_
            refine ql_g rfl rfl hs65 ?_
            refine ql_r (r_move rfl) rfl ?_
            refine ql_g rfl rfl hs65 ?_
            refine ql_call rfl rfl cb63 rfl (fun w1 hb1 hs1 hB1 => ref3_stands _ _ _ A.ss A.start most iN k _ (hA.s.at hb1 hB1) hok hmost (by omega) (by omega)) ?_
            refine ql_r (r_pickT rfl hs65 rfl) rfl ?_
            refine ql_nil (to_k0 (fun _ _ h => h) (hK29 _ _ _ _ _ ?_))
            clear hK29
            refine wp_cond' rfl (fun hc72 => ?_) (fun hc72 => ?_)
            ·refine wp_reg ?_
             refine ol_r (r_move rfl) rfl ?_
             refine ol_r (r_move rfl) rfl ?_
             refine ol_r (r_move rfl) rfl ?_
             refine ol_ixo (id := 29) encI _ rfl rfl rfl rfl sl37 (by omega) rfl fun x76 hx76 => ?_
             try simp only [Int.toNat_natCast] at hx76
             try simp only [Int.toNat_natCast] at hx76
             refine ol_storeRow (id := 29) _ _ _ rfl rfl rfl rfl sz3 (by omega) ?_
             refine ol_nil (to_k0 (fun _ _ h => h) (hK28 _ _ _ _ _ ?_))
             clear hK28
             refine wp_reg ?_
             refine ol_r (r_move rfl) rfl ?_
             refine ol_r (r_add rfl rfl (by omega)) rfl ?_
             refine ol_r (r_assign rfl) rfl ?_
             refine ol_nil (to_k0 (fun _ _ h => h) (hK25 (k + 1) _ _ ?_ ?_ (sub_cons rfl sub_nil) (sub_cons rfl (sub_cons rfl (sub_cons rfl (sub_cons rfl (sub_cons rfl (sub_cons rfl (sub_cons rfl (sub_cons rfl sub_nil)))))))) (by exact (subH_row rfl (by first | (dsimp only; first | (rw [Int.toNat_natCast]; exact congrArg encI.enc (rr_yes hmi hmn hk1 (.inl (by omega)) hc72).symm) | (rw [Int.toNat_natCast]; exact congrArg encI.enc (rr_yes hmi hmn hk1 (.inr (by omega)) hc72).symm) | exact congrArg encI.enc (rr_no hmi hk1 (fun h => absurd (h.2.symm.trans hc72) (by decide))).symm | exact congrArg encI.enc (rr_no hmi hk1 (fun h => by have := h.1; omega)).symm; done) | (first | (rw [Int.toNat_natCast]; exact congrArg encI.enc (rr_yes hmi hmn hk1 (.inl (by omega)) hc72).symm) | (rw [Int.toNat_natCast]; exact congrArg encI.enc (rr_yes hmi hmn hk1 (.inr (by omega)) hc72).symm) | exact congrArg encI.enc (rr_no hmi hk1 (fun h => absurd (h.2.symm.trans hc72) (by decide))).symm | exact congrArg encI.enc (rr_no hmi hk1 (fun h => by have := h.1; omega)).symm; done) | (dsimp only; done)) subH_nil)) (subH_same rfl (subH_same rfl subH_nil))))
             ·try dsimp only
              omega
             ·try dsimp only
              omega
            ·refine wp_skip' (to_k0 (fun _ _ h => h) (hK28 _ _ _ _ _ ?_))
             clear hK28
             refine wp_reg ?_
             refine ol_r (r_move rfl) rfl ?_
             refine ol_r (r_add rfl rfl (by omega)) rfl ?_
             refine ol_r (r_assign rfl) rfl ?_
             refine ol_nil (to_k0 (fun _ _ h => h) (hK25 (k + 1) _ _ ?_ ?_ (sub_cons rfl sub_nil) (sub_cons rfl (sub_cons rfl (sub_cons rfl (sub_cons rfl (sub_cons rfl (sub_cons rfl (sub_cons rfl (sub_cons rfl sub_nil)))))))) (by exact (subH_row rfl (by first | (dsimp only; first | (rw [Int.toNat_natCast]; exact congrArg encI.enc (rr_yes hmi hmn hk1 (.inl (by omega)) hc72).symm) | (rw [Int.toNat_natCast]; exact congrArg encI.enc (rr_yes hmi hmn hk1 (.inr (by omega)) hc72).symm) | exact congrArg encI.enc (rr_no hmi hk1 (fun h => absurd (h.2.symm.trans hc72) (by decide))).symm | exact congrArg encI.enc (rr_no hmi hk1 (fun h => by have := h.1; omega)).symm; done) | (first | (rw [Int.toNat_natCast]; exact congrArg encI.enc (rr_yes hmi hmn hk1 (.inl (by omega)) hc72).symm) | (rw [Int.toNat_natCast]; exact congrArg encI.enc (rr_yes hmi hmn hk1 (.inr (by omega)) hc72).symm) | exact congrArg encI.enc (rr_no hmi hk1 (fun h => absurd (h.2.symm.trans hc72) (by decide))).symm | exact congrArg encI.enc (rr_no hmi hk1 (fun h => by have := h.1; omega)).symm; done) | (dsimp only; done)) subH_nil)) (subH_same rfl (subH_same rfl subH_nil))))
             ·try dsimp only
              omega
             ·try dsimp only
              omega
           ·have phs65 := hs65; try simp only [decide_eq_true_eq, decide_eq_false_iff_not, Bool.not_eq_true', Bool.not_eq_false', Bool.not_true, Bool.not_false] at phs65
            refine ql_s rfl rfl hs65 rfl ?_
            refine ql_s rfl rfl hs65 rfl ?_
            refine ql_s rfl rfl hs65 rfl ?_
            refine ql_s rfl rfl hs65 rfl ?_
            refine ql_s rfl rfl hs65 rfl ?_
            refine ql_s rfl rfl hs65 rfl ?_
            refine ql_r (r_pickF rfl hs65 rfl) rfl ?_
            refine ql_nil (to_k0 (fun _ _ h => h) (hK29 _ _ _ _ _ ?_))
            clear hK29
            refine wp_condF rfl ?_
            refine wp_skip' (to_k0 (fun _ _ h => h) (hK28 _ _ _ _ _ ?_))
            clear hK28
            refine wp_reg ?_
            refine ol_r (r_move rfl) rfl ?_
            refine ol_r (r_add rfl rfl (by omega)) rfl ?_
            refine ol_r (r_assign rfl) rfl ?_
            refine ol_nil (to_k0 (fun _ _ h => h) (hK25 (k + 1) _ _ ?_ ?_ (sub_cons rfl sub_nil) (sub_cons rfl (sub_cons rfl (sub_cons rfl (sub_cons rfl (sub_cons rfl (sub_cons rfl (sub_cons rfl (sub_cons rfl sub_nil)))))))) (by exact (subH_row rfl (by first | (rw [Int.toNat_natCast]; exact congrArg encI.enc (rr_yes hmi hmn hk1 (.inl (by omega)) hc72).symm) | (rw [Int.toNat_natCast]; exact congrArg encI.enc (rr_yes hmi hmn hk1 (.inr (by omega)) hc72).symm) | exact congrArg encI.enc (rr_no hmi hk1 (fun h => absurd (h.2.symm.trans hc72) (by decide))).symm | exact congrArg encI.enc (rr_no hmi hk1 (fun h => by have := h.1; omega)).symm) subH_nil)) (subH_same rfl (subH_same rfl subH_nil))))
            ·try dsimp only
             omega
            ·try dsimp only
             omega
         ·refine wp_exit' (to_k0 (fun _ _ h => h) (hK23 _ _ _ _ _ ?_))
          clear hK23
          refine wp_reg ?_
          refine ol_r (r_move rfl) rfl ?_
          refine ol_r (r_move rfl) rfl ?_
          refine ol_r (r_move rfl) rfl ?_
          refine ol_r (r_move rfl) rfl ?_
          refine ol_r (r_move rfl) rfl ?_
          refine ol_ixo (id := 29) encI _ rfl rfl rfl rfl sl37 (by omega) rfl fun x82 hx82 => ?_
          try simp only [Int.toNat_natCast] at hx82
          try simp only [Int.toNat_natCast] at hx82
          refine ol_r (r_ldw rfl (fun w1 hb1 hs1 hB1 => show Loads _ _ _ _ (.int .i64 x82) from ld_own (id := 29) hs1 rfl rfl ty3 hx82)) rfl ?_
          obtain ⟨kx, q1, q2, q3, _⟩ := few_all hEn hmi hmn
          have h82 := (tab_get hx82).2
          rw [rr_eq hmi, show k - (iN + 1) = m + 1 by omega, q1] at h82
          subst h82
          refine ol_ixo (id := 27) encI _ rfl rfl rfl rfl sl37 (by omega) rfl fun x84 hx84 => ?_
          try simp only [Int.toNat_natCast] at hx84
          try simp only [Int.toNat_natCast] at hx84
          refine ol_r (r_ldw rfl (fun w1 hb1 hs1 hB1 => show Loads _ _ _ _ (.int .i64 x84) from ld_own (id := 27) hs1 rfl rfl ty3 hx84)) rfl ?_
          have h84 := (tab_get hx84).2
          try rw [Int.toNat_natCast] at h84
          have h84b := manyL_bd (en := enoughB A.ss (most * most)) (n := A.ss.length) m kx
          refine ol_r (r_add rfl rfl (by omega)) rfl ?_
          refine ol_ixo (id := 27) encI _ rfl rfl rfl rfl sl37 (by omega) rfl fun x87 hx87 => ?_
          try simp only [Int.toNat_natCast] at hx87
          try simp only [Int.toNat_natCast] at hx87
          refine ol_storeRow (id := 27) _ _ _ rfl rfl rfl rfl sz3 (by omega) ?_
          refine ol_nil (to_k0 (fun _ _ h => h) (hK21 _ _ _ _ _ ?_))
          clear hK21
          refine wp_reg ?_
          refine ol_r (r_move rfl) rfl ?_
          refine ol_r (r_sub rfl rfl (by omega)) rfl ?_
          refine ol_r (r_assign rfl) rfl ?_
          refine ol_nil (to_k0 (fun _ _ h => h) (hK18 ((_, m + 1)) _ _ ?_ ?_ (sub_cons rfl sub_nil) (sub_cons rfl (sub_cons rfl (sub_cons rfl (sub_cons rfl (sub_cons rfl (sub_cons rfl (sub_cons rfl sub_nil))))))) (by exact (subH_row rfl (by first | (dsimp only; first | (rw [Int.toNat_natCast]; exact congrArg encI.enc (ss_done hmi hmn (by rw [q1, Int.toNat_natCast, h84])).symm) | exact congrArg encI.enc (rr_done hmi hmn (by omega)).symm; done) | (first | (rw [Int.toNat_natCast]; exact congrArg encI.enc (ss_done hmi hmn (by rw [q1, Int.toNat_natCast, h84])).symm) | exact congrArg encI.enc (rr_done hmi hmn (by omega)).symm; done) | (dsimp only; done)) (subH_row rfl (by dsimp only; first | (rw [Int.toNat_natCast]; exact congrArg encI.enc (ss_done hmi hmn (by rw [q1, Int.toNat_natCast, h84])).symm) | exact congrArg encI.enc (rr_done hmi hmn (by omega)).symm) subH_nil))) (subH_same rfl subH_nil)))
          ·try dsimp only
           exact ⟨by omega, by omega⟩
          ·try dsimp only
           omega
       ·refine wp_exit' (to_k0 (fun _ _ h => h) (hK16 _ _ _ _ _ ?_))
        clear hK16
        refine wp_seq' fun K30 hK30 => ?_
        refine wp_reg ?_
        refine ol_nilrow 12 3 1 ?_
        refine ol_r (r_assign rfl) rfl ?_
        refine ol_nil (to_k0 (fun _ _ h => h) (hK30 _ _ _ _ _ ?_))
        clear hK30
        refine wp_seq' fun K31 hK31 => ?_
        refine wp_seq' fun K32 hK32 => ?_
        refine wp_reg ?_
        first
          | subst h93
          | skip
        refine ol_r (r_assign rfl) rfl ?_
        refine ol_nil (to_k0 (fun _ _ h => h) (hK32 _ _ _ _ _ ?_))
        clear hK32
        refine wp_block' ?_
        apply wp_loopM (σ := List Int × Nat × Nat × Option Addr × Nat) (fun s => s.1.length = s.2.2.1 ∧ s.2.2.1 ≤ A.ss.length ∧ s.2.2.1 ≤ s.2.1 ∧ ∃ f, A.ss.length ≤ s.2.1 + f ∧ s.1 ++ chainF (enoughB A.ss (most * most)) A.ss.length f s.2.1 = chainF (enoughB A.ss (most * most)) A.ss.length (A.ss.length + 1) 0) (fun s => [(13, .int .i64 s.2.1), (12, .slice s.2.2.2.1 s.2.2.1 s.2.2.2.2)]) [(4, _), (5, _), (7, _), (9, _)] (fun s => [(12, .row s.2.2.2.1 s.2.2.1 s.2.2.2.2 (encI.enc s.1) 3 1)]) [(2, _), (27, _), (29, _)] (fun s => A.ss.length + 1 - s.2.1) (([], 0, 0, none, 0))
        ·try dsimp only
         exact ⟨rfl, Nat.zero_le _, Nat.zero_le _, A.ss.length + 1, by omega, rfl⟩
        ·exact (sub_cons rfl (sub_cons rfl sub_nil))
        ·exact (sub_cons rfl (sub_cons rfl (sub_cons rfl (sub_cons rfl sub_nil))))
        ·exact (subH_row rfl (by dsimp only; rfl) subH_nil)
        ·exact (subH_same rfl (subH_same rfl (subH_same rfl subH_nil)))
        ·rintro ⟨ys, i3, cnt, oa, oc⟩ ⟨hcnt, hcn, hci, f, hf, hT⟩
         dsimp only at hcnt hcn hci hf hT ⊢
         intro K33 hK33
         refine wp_seq' fun K34 hK34 => ?_
         refine wp_seq' fun K35 hK35 => ?_
         refine wp_reg ?_
         refine ol_r (r_move rfl) rfl ?_
         refine ol_r (r_move rfl) rfl ?_
         refine ol_r (r_lss rfl rfl) rfl ?_
         refine ol_nil (to_k0 (fun _ _ h => h) (hK35 _ _ _ _ _ ?_))
         clear hK35
         refine wp_condD rfl (fun hc90 => ?_) (fun hc90 => ?_)
         ·refine wp_skip' (to_k0 (fun _ _ h => h) (hK34 _ _ _ _ _ ?_))
          clear hK34
          refine wp_seq' fun K36 hK36 => ?_
          refine wp_block' ?_
          refine wp_seq' fun K37 hK37 => ?_
          refine wp_reg ?_
          obtain ⟨f', rfl⟩ : ∃ f', f = f' + 1 := ⟨f - 1, by omega⟩
          rw [chain_next (by omega)] at hT
          refine ol_r (r_move rfl) rfl ?_
          refine ol_r (r_move rfl) rfl ?_
          refine ol_bs1 97 rfl rfl rw37 rfl rfl rfl fun a97 => ?_
          refine ol_append1 (id := 12) (id2 := 97) rfl rfl rfl rfl rfl rw37 (by omega) rfl fun a98 c98 => ?_
          refine ol_r (r_assign rfl) rfl ?_
          refine ol_nil (to_k0 (fun _ _ h => h) (hK37 _ _ _ _ _ ?_))
          clear hK37
          refine wp_seq' fun K38 hK38 => ?_
          refine wp_reg ?_
          refine ol_r (r_move rfl) rfl ?_
          refine ol_r (r_move rfl) rfl ?_
          refine ol_r (r_sub rfl rfl (by omega)) rfl ?_
          refine ol_r (r_eql rfl rfl) rfl ?_
          refine ol_nil (to_k0 (fun _ _ h => h) (hK38 _ _ _ _ _ ?_))
          clear hK38
          refine wp_condD rfl (fun hc102 => ?_) (fun hc102 => ?_)
          ·refine wp_exit' (to_k0 (fun _ _ h => h) (hK31 _ _ _ _ _ ?_))
           clear hK31
           refine wp_seq' fun K39 hK39 => ?_
           refine wp_reg ?_
           refine ol_r (r_move rfl) rfl ?_
           refine ol_r (r_assign rfl) rfl ?_
           refine ol_r (r_assign rfl) rfl ?_
           refine ol_nil (to_k0 (fun _ _ h => h) (hK39 _ _ _ _ _ ?_))
           clear hK39
           refine hQ.ret (rvs2 (rv_t rfl) (rv_t rfl)) (fun _ _ h => h) fun w hb hs hB hkd => ?_
           have h := fewestR_0 (a := A.d) (most := most) (fewErr_ok h0 hmost (by show ¬(300 : Int) < (A.ss.length : Int); omega))
           have hT2 : encI.enc (fewestL A.ss (most * most)) = _ := congrArg encI.enc hT.symm
           rw [h]
           first
             | (rw [chainF_stop (by omega), List.append_nil] at hT2
                exact ⟨_, _, _, rfl, hb, by show World.ownsRow _ _ _ _ _ _ (encI.enc (fewestL A.ss (most * most))); rw [hT2]; exact hs.ok 12 _ rfl⟩)
             | (rw [if_neg (by omega), Enc.enc_append] at hT2
                exact ⟨_, _, _, rfl, hb, by show World.ownsRow _ _ _ _ _ _ (encI.enc (fewestL A.ss (most * most))); rw [hT2]; exact hs.ok 12 _ rfl⟩)
          ·refine wp_skip' (to_k0 (fun _ _ h => h) (hK36 _ _ _ _ _ ?_))
           clear hK36
           refine wp_reg ?_
           refine ol_r (r_move rfl) rfl ?_
           refine ol_r (r_move rfl) rfl ?_
           refine ol_ixo (id := 29) encI _ rfl rfl rfl rfl sl37 (by omega) rfl fun x93 hx93 => ?_
           try simp only [Int.toNat_natCast] at hx93
           try simp only [Int.toNat_natCast] at hx93
           have hmE : m = A.ss.length - 1 := by omega
           have h93 := (tab_get hx93).2
           rw [hmE, nx_is (by omega)] at h93
           have hnb := nx_bd (ss := A.ss) (M := most * most) (i := i3) (by omega)
           refine ol_r (r_ldw rfl (fun w1 hb1 hs1 hB1 => show Loads _ _ _ _ (.int .i64 x93) from ld_own (id := 29) hs1 rfl rfl ty3 hx93)) rfl ?_
           first
             | subst h93
             | skip
           refine ol_r (r_assign rfl) rfl ?_
           refine ol_nil (to_k0 (fun _ _ h => h) (hK33 ((ys ++ [(i3 : Int)], nxN A.ss (most * most) i3, _, _, _)) _ _ ?_ ?_ (sub_cons rfl (sub_cons rfl sub_nil)) (sub_cons rfl (sub_cons rfl (sub_cons rfl (sub_cons rfl sub_nil)))) (by exact (subH_row rfl (by dsimp only; rw [Enc.enc_append]; rfl) subH_nil)) (subH_same rfl (subH_same rfl (subH_same rfl subH_nil)))))
           ·try dsimp only
            exact ⟨by simp [hcnt], by omega, by omega, f', by omega, by rw [if_pos (by omega)] at hT; rw [← hT, List.append_assoc]; rfl⟩
           ·try dsimp only
            omega
         ·refine wp_exit' (to_k0 (fun _ _ h => h) (hK31 _ _ _ _ _ ?_))
          clear hK31
          refine wp_seq' fun K40 hK40 => ?_
          refine wp_reg ?_
          refine ol_r (r_move rfl) rfl ?_
          refine ol_r (r_assign rfl) rfl ?_
          refine ol_r (r_assign rfl) rfl ?_
          refine ol_nil (to_k0 (fun _ _ h => h) (hK40 _ _ _ _ _ ?_))
          clear hK40
          refine hQ.ret (rvs2 (rv_t rfl) (rv_t rfl)) (fun _ _ h => h) fun w hb hs hB hkd => ?_
          have h := fewestR_0 (a := A.d) (most := most) (fewErr_ok h0 hmost (by show ¬(300 : Int) < (A.ss.length : Int); omega))
          have hT2 : encI.enc (fewestL A.ss (most * most)) = _ := congrArg encI.enc hT.symm
          rw [h]
          first
            | (rw [chainF_stop (by omega), List.append_nil] at hT2
               exact ⟨_, _, _, rfl, hb, by show World.ownsRow _ _ _ _ _ _ (encI.enc (fewestL A.ss (most * most))); rw [hT2]; exact hs.ok 12 _ rfl⟩)
            | (rw [if_neg (by omega), Enc.enc_append] at hT2
               exact ⟨_, _, _, rfl, hb, by show World.ownsRow _ _ _ _ _ _ (encI.enc (fewestL A.ss (most * most))); rw [hT2]; exact hs.ok 12 _ rfl⟩)
theorem law_few (A : ActV) (most : Int) (w : World) (hA : A.Ok w.heap.size w) :
    Calls Try.prog 4 #[.agg #[.string A.name, .int .i64 A.sport, .int .i64 A.start, .slice A.sa A.sn A.sc, .slice A.la A.ln A.lc, .slice A.ta A.tn A.tc], .int .i64 most] w fun e w' => e = .returned (.bool true) ∧ Below w.heap.size w w' := by
  refine enterQ (N := 58) (C := fun _ => True) (H := []) (B := w.heap.size) (args := [_, _]) Try.func4 rfl rfl rfl (Nat.le_refl _) (Sat.nil _ _) fun Q hQ => ?_
  refine wp_seq' fun K1 hK1 => ?_
  refine wp_reg ?_
  refine ol_box 2 rfl rfl rfl fun b2 => ?_
  refine ol_r (r_assign rfl) rfl ?_
  refine ol_nil (to_k0 (fun _ _ h => h) (hK1 _ _ _ _ _ ?_))
  clear hK1
  refine wp_seq' fun K2 hK2 => ?_
  refine wp_reg ?_
  refine ol_r (r_lda (id := 2) (n := 6) rfl rfl rfl ag26) rfl ?_
  refine ol_r (r_move rfl) rfl ?_
  refine ol_call rfl rfl cb17 rfl (fun w1 hb1 hs1 hB1 => Calls.mono (track_Simple A most _ (hA.at hb1 hB1)) ?_)
  rintro e w2 ⟨a16, n16, c16, rfl, hf16⟩
  refine After.fresh (id := 16) rfl hb1 hs1 hB1 hf16 ?_
  have hl16 := hf16.len; clear hf16 hB1 hs1 hb1 w2 w1
  refine ol_r (r_move rfl) rfl ?_
  refine ol_r (r_extract rfl rfl) rfl ?_
  refine ol_r (r_extract rfl rfl) rfl ?_
  refine ol_r (r_assign rfl) rfl ?_
  refine ol_r (r_assign rfl) rfl ?_
  refine ol_nil (to_k0 (fun _ _ h => h) (hK2 _ _ _ _ _ ?_))
  clear hK2
  refine wp_seq' fun K3 hK3 => ?_
  refine wp_reg ?_
  refine ol_r (r_lda (id := 2) (n := 6) rfl rfl rfl ag26) rfl ?_
  refine ol_r (r_move rfl) rfl ?_
  refine ol_call rfl rfl cb18 rfl (fun w1 hb1 hs1 hB1 => Calls.mono (ref3_Simple A most _ (hA.at hb1 hB1)) ?_)
  rintro e w2 ⟨a22, n22, c22, rfl, hf22⟩
  refine After.fresh (id := 22) rfl hb1 hs1 hB1 hf22 ?_
  have hl22 := hf22.len; clear hf22 hB1 hs1 hb1 w2 w1
  refine ol_r (r_move rfl) rfl ?_
  refine ol_r (r_extract rfl rfl) rfl ?_
  refine ol_r (r_extract rfl rfl) rfl ?_
  refine ol_r (r_assign rfl) rfl ?_
  refine ol_r (r_assign rfl) rfl ?_
  refine ol_nil (to_k0 (fun _ _ h => h) (hK3 _ _ _ _ _ ?_))
  clear hK3
  refine wp_seq' fun K4 hK4 => ?_
  refine wp_reg ?_
  refine ol_r (r_lda (id := 2) (n := 6) rfl rfl rfl ag26) rfl ?_
  refine ol_r (r_move rfl) rfl ?_
  refine ol_call rfl rfl cb19 rfl (fun w1 hb1 hs1 hB1 => Calls.mono (track_Fewest A most _ (hA.at hb1 hB1)) ?_)
  rintro e w2 ⟨a28, n28, c28, rfl, hf28⟩
  refine After.fresh (id := 28) rfl hb1 hs1 hB1 hf28 ?_
  have hl28 := hf28.len; clear hf28 hB1 hs1 hb1 w2 w1
  refine ol_r (r_move rfl) rfl ?_
  refine ol_r (r_extract rfl rfl) rfl ?_
  refine ol_r (r_extract rfl rfl) rfl ?_
  refine ol_r (r_assign rfl) rfl ?_
  refine ol_r (r_assign rfl) rfl ?_
  refine ol_nil (to_k0 (fun _ _ h => h) (hK4 _ _ _ _ _ ?_))
  clear hK4
  refine wp_seq' fun K5 hK5 => ?_
  refine wp_reg ?_
  refine ol_r (r_lda (id := 2) (n := 6) rfl rfl rfl ag26) rfl ?_
  refine ol_r (r_move rfl) rfl ?_
  refine ol_call rfl rfl cb20 rfl (fun w1 hb1 hs1 hB1 => Calls.mono (ref3_Fewest A most _ (hA.at hb1 hB1)) ?_)
  rintro e w2 ⟨a34, n34, c34, rfl, hf34⟩
  refine After.fresh (id := 34) rfl hb1 hs1 hB1 hf34 ?_
  have hl34 := hf34.len; clear hf34 hB1 hs1 hb1 w2 w1
  refine ol_r (r_move rfl) rfl ?_
  refine ol_r (r_extract rfl rfl) rfl ?_
  refine ol_r (r_extract rfl rfl) rfl ?_
  refine ol_r (r_assign rfl) rfl ?_
  refine ol_r (r_assign rfl) rfl ?_
  refine ol_nil (to_k0 (fun _ _ h => h) (hK5 _ _ _ _ _ ?_))
  clear hK5
  refine wp_seq' fun K6 hK6 => ?_
  refine wp_reg ?_
  refine ol_r (r_move rfl) rfl ?_
  refine ol_r (r_move rfl) rfl ?_
  refine ol_call rfl rfl cb21 rfl (fun w1 hb1 hs1 hB1 => Calls.mono (equal_int _ _ _ _ _ _ (simpleR A.d most).1 (simpleR A.d most).1 _ (Sat.rd hs1 (id := 16) rfl rfl) (Sat.rd hs1 (id := 22) rfl rfl)) ?_)
  rintro e w2 ⟨rfl, hb2⟩
  refine After.below rfl hb1 hs1 hB1 hb2 ?_
  clear hb2 hB1 hs1 hb1 w2 w1
  refine ol_r (r_move rfl) rfl ?_
  refine ol_split (d := 40) rfl (fun hs40 => ?_) (fun hs40 => ?_)
  ·have phs40 := hs40; try simp only [decide_eq_true_eq, decide_eq_false_iff_not, Bool.not_eq_true', Bool.not_eq_false', Bool.not_true, Bool.not_false] at phs40
   refine ol_g rfl rfl hs40 ?_
   refine ol_r (r_move rfl) rfl ?_
   refine ol_g rfl rfl hs40 ?_
   refine ol_r (r_move rfl) rfl ?_
   refine ol_g rfl rfl hs40 ?_
   refine ol_r (r_eql rfl rfl) rfl ?_
   refine ol_r (r_pickT rfl hs40 rfl) rfl ?_
   refine ol_r (r_move rfl) rfl ?_
   refine ol_split (d := 45) rfl (fun hs45 => ?_) (fun hs45 => ?_)
   ·have phs45 := hs45; try simp only [decide_eq_true_eq, decide_eq_false_iff_not, Bool.not_eq_true', Bool.not_eq_false', Bool.not_true, Bool.not_false] at phs45
    refine ol_g rfl rfl hs45 ?_
    refine ol_r (r_move rfl) rfl ?_
    refine ol_g rfl rfl hs45 ?_
    refine ol_r (r_move rfl) rfl ?_
    refine ol_g rfl rfl hs45 ?_
    refine ol_call rfl rfl cb21 rfl (fun w1 hb1 hs1 hB1 => Calls.mono (equal_int _ _ _ _ _ _ (fewestR A.d most).1 (fewestR A.d most).1 _ (Sat.rd hs1 (id := 28) rfl rfl) (Sat.rd hs1 (id := 34) rfl rfl)) ?_)
    rintro e w2 ⟨rfl, hb2⟩
    refine After.below rfl hb1 hs1 hB1 hb2 ?_
    clear hb2 hB1 hs1 hb1 w2 w1
    refine ol_r (r_pickT rfl hs45 rfl) rfl ?_
    refine ol_r (r_move rfl) rfl ?_
    refine ol_split (d := 50) rfl (fun hs50 => ?_) (fun hs50 => ?_)
    ·have phs50 := hs50; try simp only [decide_eq_true_eq, decide_eq_false_iff_not, Bool.not_eq_true', Bool.not_eq_false', Bool.not_true, Bool.not_false] at phs50
     refine ol_g rfl rfl hs50 ?_
     refine ol_r (r_move rfl) rfl ?_
     refine ol_g rfl rfl hs50 ?_
     refine ol_r (r_move rfl) rfl ?_
     refine ol_g rfl rfl hs50 ?_
     refine ol_r (r_eql rfl rfl) rfl ?_
     refine ol_r (r_pickT rfl hs50 rfl) rfl ?_
     refine ol_r (r_move rfl) rfl ?_
     refine ol_split (d := 55) rfl (fun hs55 => ?_) (fun hs55 => ?_)
     ·have phs55 := hs55; try simp only [decide_eq_true_eq, decide_eq_false_iff_not, Bool.not_eq_true', Bool.not_eq_false', Bool.not_true, Bool.not_false] at phs55
      refine ol_g rfl rfl hs55 ?_
      refine ol_call rfl rfl cb16 rfl (fun w1 hb1 hs1 hB1 => Calls.mono (law3_told _) ?_)
      rintro e w2 ⟨rfl, hb2⟩
      refine After.below rfl hb1 hs1 hB1 hb2 ?_
      clear hb2 hB1 hs1 hb1 w2 w1
      refine ol_r (r_pickT rfl hs55 rfl) rfl ?_
      refine ol_r (r_assign rfl) rfl ?_
      refine ol_nil (to_k0 (fun _ _ h => h) (hK6 _ _ _ _ _ ?_))
      clear hK6
      refine hQ.ret (rvs1 (rv_t rfl)) (fun _ _ h => h) fun w hb hs hB hkd => ?_
      first
        | exact ⟨rfl, hb⟩
     ·have phs55 := hs55; try simp only [decide_eq_true_eq, decide_eq_false_iff_not, Bool.not_eq_true', Bool.not_eq_false', Bool.not_true, Bool.not_false] at phs55
      refine ol_s rfl rfl hs55 rfl ?_
      refine ol_r (r_pickF rfl hs55 rfl) rfl ?_
      refine ol_r (r_assign rfl) rfl ?_
      refine ol_nil (to_k0 (fun _ _ h => h) (hK6 _ _ _ _ _ ?_))
      clear hK6
      refine hQ.ret (rvs1 (rv_t rfl)) (fun _ _ h => h) fun w hb hs hB hkd => ?_
      first
        | (exfalso; simp at phs55; done)
    ·have phs50 := hs50; try simp only [decide_eq_true_eq, decide_eq_false_iff_not, Bool.not_eq_true', Bool.not_eq_false', Bool.not_true, Bool.not_false] at phs50
     refine ol_s rfl rfl hs50 rfl ?_
     refine ol_s rfl rfl hs50 rfl ?_
     refine ol_s rfl rfl hs50 rfl ?_
     refine ol_r (r_pickF rfl hs50 rfl) rfl ?_
     refine ol_r (r_move rfl) rfl ?_
     refine ol_s rfl rfl rfl rfl ?_
     refine ol_r (r_pickF rfl rfl rfl) rfl ?_
     refine ol_r (r_assign rfl) rfl ?_
     refine ol_nil (to_k0 (fun _ _ h => h) (hK6 _ _ _ _ _ ?_))
     clear hK6
     refine hQ.ret (rvs1 (rv_t rfl)) (fun _ _ h => h) fun w hb hs hB hkd => ?_
     first
       | (exfalso; simp at phs50; done)
   ·have phs45 := hs45; try simp only [decide_eq_true_eq, decide_eq_false_iff_not, Bool.not_eq_true', Bool.not_eq_false', Bool.not_true, Bool.not_false] at phs45
    refine ol_s rfl rfl hs45 rfl ?_
    refine ol_s rfl rfl hs45 rfl ?_
    refine ol_s rfl rfl hs45 rfl ?_
    refine ol_r (r_pickF rfl hs45 rfl) rfl ?_
    refine ol_r (r_move rfl) rfl ?_
    refine ol_s rfl rfl rfl rfl ?_
    refine ol_s rfl rfl rfl rfl ?_
    refine ol_s rfl rfl rfl rfl ?_
    refine ol_r (r_pickF rfl rfl rfl) rfl ?_
    refine ol_r (r_move rfl) rfl ?_
    refine ol_s rfl rfl rfl rfl ?_
    refine ol_r (r_pickF rfl rfl rfl) rfl ?_
    refine ol_r (r_assign rfl) rfl ?_
    refine ol_nil (to_k0 (fun _ _ h => h) (hK6 _ _ _ _ _ ?_))
    clear hK6
    refine hQ.ret (rvs1 (rv_t rfl)) (fun _ _ h => h) fun w hb hs hB hkd => ?_
    first
      | (exfalso; simp at phs45; done)
  ·have phs40 := hs40; try simp only [decide_eq_true_eq, decide_eq_false_iff_not, Bool.not_eq_true', Bool.not_eq_false', Bool.not_true, Bool.not_false] at phs40
   refine ol_s rfl rfl hs40 rfl ?_
   refine ol_s rfl rfl hs40 rfl ?_
   refine ol_s rfl rfl hs40 rfl ?_
   refine ol_r (r_pickF rfl hs40 rfl) rfl ?_
   refine ol_r (r_move rfl) rfl ?_
   refine ol_s rfl rfl rfl rfl ?_
   refine ol_s rfl rfl rfl rfl ?_
   refine ol_s rfl rfl rfl rfl ?_
   refine ol_r (r_pickF rfl rfl rfl) rfl ?_
   refine ol_r (r_move rfl) rfl ?_
   refine ol_s rfl rfl rfl rfl ?_
   refine ol_s rfl rfl rfl rfl ?_
   refine ol_s rfl rfl rfl rfl ?_
   refine ol_r (r_pickF rfl rfl rfl) rfl ?_
   refine ol_r (r_move rfl) rfl ?_
   refine ol_s rfl rfl rfl rfl ?_
   refine ol_r (r_pickF rfl rfl rfl) rfl ?_
   refine ol_r (r_assign rfl) rfl ?_
   refine ol_nil (to_k0 (fun _ _ h => h) (hK6 _ _ _ _ _ ?_))
   clear hK6
   refine hQ.ret (rvs1 (rv_t rfl)) (fun _ _ h => h) fun w hb hs hB hkd => ?_
   first
     | (exfalso; simp at phs40; done)
end Go.Proofs.Ytogcclagmobkiaa
