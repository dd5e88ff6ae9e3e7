/-
  Simple: program and reference.
-/
import Derived.Test.YtogcclagmobkiaaFew
import Derived.Test.YtogcclagmobkiaaHw
namespace Go.Proofs.Ytogcclagmobkiaa
open Go Go.RowKit Hx
set_option linter.unusedVariables false
set_option linter.unusedSimpArgs false
set_option maxRecDepth 8000
namespace Hx
/-- What H' tells, H tells more of, under other numbers. -/
def KeyLe (H : HL) (ks : List (Nat × Nat)) (H' : HL) : Prop := ∀ j e, look H' j = some e → ∃ i f, (i, j) ∈ ks ∧ look H i = some f ∧ e.le f
theorem keyLe_nil {H : HL} : KeyLe H [] [] := fun j e h => by simp [look] at h
theorem keyLe_cons {H H' : HL} {i k : Nat} {e f : Ent} {ks : List (Nat × Nat)} (h : look H i = some f) (hl : e.le f) (hk : KeyLe H ks H') : KeyLe H ((i, k) :: ks) ((k, e) :: H') := fun j g hj => by
  by_cases hkj : k = j
  · subst hkj; rw [look_cons_eq] at hj; cases hj; exact ⟨i, f, by simp, h, hl⟩
  · rw [look_cons_ne _ _ hkj] at hj
    obtain ⟨i', f', h1, h2⟩ := hk j g hj
    exact ⟨i', f', by simp [h1], h2⟩
theorem Sat.keyLe {B : Nat} {H H' : HL} {w : World} (h : Sat B w H) (ks : List (Nat × Nat)) (hk : KeyLe H ks H') (hd : ∀ p ∈ ks, ∀ q ∈ ks, p.1 = q.1 → p.2 = q.2) : Sat B w H' :=
  ⟨fun j e he => by obtain ⟨i, f, _, h2, h3⟩ := hk j e he; exact h3.ok (h.ok i f h2), fun j j' e f hj he hf b hb hb' => by
    obtain ⟨i, e', a1, a2, a3⟩ := hk j e he
    obtain ⟨i', f', b1, b2, b3⟩ := hk j' f hf
    exact h.apart i i' e' f' (fun hii => hj (hd _ a1 _ b1 hii)) a2 b2 b (a3.own hb) (b3.own hb')⟩
theorem le_blk {b : Nat} {cl cl' : List (Nat × Value)} {T : TypeId} (h : Sub cl cl') : (Ent.blk b cl T).le (.blk b cl' T) := ⟨rfl, rfl, h.out⟩
theorem le_row {a : Option Addr} {n c s : Nat} {xs ys : List Value} {e : TypeId} (h : xs = ys) : (Ent.row a n c xs e s).le (.row a n c ys e s) := by subst h; exact Ent.le_refl _
end Hx
section
variable {E : Nat → Int} {M : Int} {i k : Nat} {r : Int × Int}
theorem wst_yes (hk : i + 1 ≤ k) (h : wst E M i (k - (i + 1)) = r) (hx : r.2 < E k) : wst E M i (k + 1 - (i + 1)) = ((k : Int), E k) := by
  rw [show k + 1 - (i + 1) = (k - (i + 1)) + 1 by omega, wst, h, show i + 1 + (k - (i + 1)) = k by omega, if_pos hx]
theorem wst_no (hk : i + 1 ≤ k) (h : wst E M i (k - (i + 1)) = r) (hx : ¬r.2 < E k) : wst E M i (k + 1 - (i + 1)) = r := by
  rw [show k + 1 - (i + 1) = (k - (i + 1)) + 1 by omega, wst, h, show i + 1 + (k - (i + 1)) = k by omega, if_neg hx]
end
section
variable {E : Nat → Int} {M : Int} {i k : Nat} {far : Int}
theorem far_some {c : Nat} (h : (wst E M i c).1 = far) (hf : ¬far < 0) : ∃ m : Nat, far = m ∧ i < m ∧ m < i + 1 + c ∧ (wst E M i c).2 = E m := by
  rcases (wst_bd (E := E) (M := M) (i := i) c).2 with h2 | ⟨m, a, b, c', d, e⟩
  · omega
  · exact ⟨m, by omega, b, c', d⟩
theorem far_none {c : Nat} (h : (wst E M i c).1 = far) (hf : far < 0) : (wst E M i c).2 = M := by
  rcases (wst_bd (E := E) (M := M) (i := i) c).2 with h2 | ⟨m, a, b, c', d, e⟩
  · exact h2.2
  · omega
theorem far_yes (hk : i + 1 ≤ k) (h : (wst E M i (k - (i + 1))).1 = far) (hM : M < E k) (hx : far < 0 ∨ ∃ m : Nat, far = m ∧ E m < E k) : (wst E M i (k + 1 - (i + 1))).1 = k := by
  rw [wst_yes hk rfl]
  rcases hx with hx | ⟨m, hm, hx⟩
  · rw [far_none h hx]; exact hM
  · obtain ⟨m', a, _, _, e⟩ := far_some h (by omega)
    obtain rfl : m' = m := by omega
    rw [e]; exact hx
theorem far_no (hk : i + 1 ≤ k) (h : (wst E M i (k - (i + 1))).1 = far) (hx : ¬M < E k ∨ ∃ m : Nat, far = m ∧ ¬E m < E k) : (wst E M i (k + 1 - (i + 1))).1 = far := by
  rw [wst_no hk rfl]
  · exact h
  · rcases hx with hx | ⟨m, hm, hx⟩
    · have := (wst_bd (E := E) (M := M) (i := i) (k - (i + 1))).1
      omega
    · obtain ⟨m', a, _, _, e⟩ := far_some h (by omega)
      obtain rfl : m' = m := by omega
      rw [e]; exact hx
end
theorem worst_is {ss : List SmpR} {M : Int} {i j : Nat} {r : Int × Int} (h : wst (fun k => errI ss i k j) M i (j - (i + 1)) = r) : worst ss M i j = r.1 := by unfold worst; rw [h]
theorem simple_keep (B bM bL bK bO : Nat) (tk : TypeId) (sa : Option Addr) (sn sc : Nat) (ss : List SmpR) (st most : Int) (hok : SmpOk st ss) (hm : 0 ≤ most ∧ most ≤ 100000000) :
    ∀ (f i j : Nat) (ys : List Int) (oa : Option Addr) (on oc : Nat) (w : World), B ≤ w.heap.size → i < j → j < ss.length → j - i ≤ f → ys.length = on → on ≤ i + 1 → Rd encSmp B w sa sn sc ss →
    Sat B w [(3008, .row oa on oc (encI.enc (ys)) 3 1), (108, .blk bO [(0, .slice oa on oc)] 37), (109, .blk bK [(0, .func (.func 57) #[] #[.pointer (some ⟨bM, 0, none⟩), .pointer (some ⟨bL, 0, none⟩), .pointer (some ⟨bK, 0, none⟩), .pointer (some ⟨bO, 0, none⟩)])] tk), (107, .blk bL [(0, .slice sa sn sc)] 22), (103, .blk bM [(0, .int .i64 most)] 3)] →
    Calls Try.prog 57 #[.int .i64 i, .int .i64 j, .pointer (some ⟨bM, 0, none⟩), .pointer (some ⟨bL, 0, none⟩), .pointer (some ⟨bK, 0, none⟩), .pointer (some ⟨bO, 0, none⟩)] w fun e w' =>
      ∃ oa' on' oc', (ys ++ simpL ss (most * most) f i j).length = on' ∧ e = .returned (.tuple #[]) ∧ Below B w w' ∧ Sat B w' [(3008, .row oa' on' oc' (encI.enc (ys ++ simpL ss (most * most) f i j)) 3 1), (108, .blk bO [(0, .slice oa' on' oc')] 37), (109, .blk bK [(0, .func (.func 57) #[] #[.pointer (some ⟨bM, 0, none⟩), .pointer (some ⟨bL, 0, none⟩), .pointer (some ⟨bK, 0, none⟩), .pointer (some ⟨bO, 0, none⟩)])] tk), (107, .blk bL [(0, .slice sa sn sc)] 22), (103, .blk bM [(0, .int .i64 most)] 3)] ∧ B ≤ w'.heap.size ∧ Kd (fun _ => False) w w' := by
  have hl20 := hok.len
  have hmm := mul_bd (a := most) (b := most) (A := 100000000) (B := 100000000) (by omega) (by omega) (by omega) (by omega)
  intro f
  induction f with
  | zero => intro i j ys oa on oc w hB hij hj hf; omega
  | succ f ih =>
   intro i j ys oa on oc w hB hij hj hf hys hon hl hs
   have hn := hl.len
   refine enterQ (N := 46) (C := fun _ => False) (H := [(3008, .row oa on oc (encI.enc (ys)) 3 1), (108, .blk bO [(0, .slice oa on oc)] 37), (109, .blk bK [(0, .func (.func 57) #[] #[.pointer (some ⟨bM, 0, none⟩), .pointer (some ⟨bL, 0, none⟩), .pointer (some ⟨bK, 0, none⟩), .pointer (some ⟨bO, 0, none⟩)])] tk), (107, .blk bL [(0, .slice sa sn sc)] 22), (103, .blk bM [(0, .int .i64 most)] 3)]) (B := B) (args := [_, _, _, _, _, _]) Try.func57 rfl rfl rfl (hB) (hs) fun Q hQ => ?_
   refine wp_seq' fun K1 hK1 => ?_
   refine wp_regq (by kernel_rfl) (by kernel_rfl) ?_
   refine ql_r (r_ld (id := 103) rfl rfl rfl sc3) rfl ?_
   refine ql_r (r_ld (id := 103) rfl rfl rfl sc3) rfl ?_
   refine ql_r (r_mul rfl rfl (by omega)) rfl ?_
   refine ql_r (r_assign rfl) rfl ?_
   refine ql_r (r_assign rfl) rfl ?_
   refine ql_nil (to_k0 (fun _ _ h => h) (hK1 _ _ _ _ _ ?_))
   clear hK1
   refine wp_seq' fun K2 hK2 => ?_
   refine wp_seq' fun K3 hK3 => ?_
   refine wp_reg ?_
   refine ol_r (r_move rfl) rfl ?_
   refine ol_r (r_add rfl rfl (by omega)) rfl ?_
   refine ol_r (r_assign rfl) rfl ?_
   refine ol_nil (to_k0 (fun _ _ h => h) (hK3 _ _ _ _ _ ?_))
   clear hK3
   refine wp_block' ?_
   apply wp_loopM (σ := Nat × Int × Int) (fun s => i + 1 ≤ s.1 ∧ s.1 ≤ j ∧ wst (fun k => errI ss i k j) (most * most) i (s.1 - (i + 1)) = s.2) (fun s => [(10, .int .i64 s.1), (8, .int .i64 s.2.1), (9, .int .i64 s.2.2)]) [(0, _), (1, _), (3, _), (4, _), (5, _)] (fun s => []) [(103, _), (107, _), (108, _), (109, _), (3008, _)] (fun s => j - s.1) ((i + 1, -1, most * most))
   ·try dsimp only
    exact ⟨Nat.le_refl _, by omega, by rw [Nat.sub_self]; rfl⟩
   ·exact (sub_cons rfl (sub_cons rfl (sub_cons rfl sub_nil)))
   ·exact (sub_cons rfl (sub_cons rfl (sub_cons rfl (sub_cons rfl (sub_cons rfl sub_nil)))))
   ·exact subH_nil
   ·exact (subH_same rfl (subH_same rfl (subH_same rfl (subH_same rfl (subH_same rfl subH_nil)))))
   ·rintro ⟨k, far, gr⟩ ⟨hk1, hk2, hW⟩
    dsimp only at hk1 hk2 hW ⊢
    intro K4 hK4
    refine wp_seq' fun K5 hK5 => ?_
    refine wp_seq' fun K6 hK6 => ?_
    refine wp_reg ?_
    refine ol_r (r_move rfl) rfl ?_
    refine ol_r (r_move rfl) rfl ?_
    refine ol_r (r_lss rfl rfl) rfl ?_
    refine ol_nil (to_k0 (fun _ _ h => h) (hK6 _ _ _ _ _ ?_))
    clear hK6
    refine wp_condD rfl (fun hc19 => ?_) (fun hc19 => ?_)
    ·refine wp_skip' (to_k0 (fun _ _ h => h) (hK5 _ _ _ _ _ ?_))
     clear hK5
     refine wp_seq' fun K7 hK7 => ?_
     refine wp_block' ?_
     refine wp_seq' fun K8 hK8 => ?_
     refine wp_reg ?_
     refine ol_r (r_ld (id := 107) rfl rfl rfl sc22) rfl ?_
     refine ol_r (r_move rfl) rfl ?_
     refine ol_r (r_move rfl) rfl ?_
     refine ol_r (r_move rfl) rfl ?_
     refine ol_call rfl rfl cb58 rfl (fun w1 hb1 hs1 hB1 => Calls.mono (track_failing _ _ _ ss st i k j _ (hl.at hb1 hB1) hok (by omega) (by omega) hj) ?_)
     rintro e w2 ⟨rfl, hb2⟩
     refine After.below rfl hb1 hs1 hB1 hb2 ?_
     clear hb2 hB1 hs1 hb1 w2 w1
     refine ol_r (r_assign rfl) rfl ?_
     refine ol_nil (to_k0 (fun _ _ h => h) (hK8 _ _ _ _ _ ?_))
     clear hK8
     refine wp_seq' fun K9 hK9 => ?_
     refine wp_reg ?_
     refine ol_r (r_move rfl) rfl ?_
     refine ol_r (r_move rfl) rfl ?_
     refine ol_r (r_gtr rfl rfl) rfl ?_
     refine ol_nil (to_k0 (fun _ _ h => h) (hK9 _ _ _ _ _ ?_))
     clear hK9
     refine wp_condD rfl (fun hc29 => ?_) (fun hc29 => ?_)
     ·refine wp_reg ?_
      refine ol_r (r_move rfl) rfl ?_
      refine ol_r (r_move rfl) rfl ?_
      refine ol_r (r_assign rfl) rfl ?_
      refine ol_r (r_assign rfl) rfl ?_
      refine ol_nil (to_k0 (fun _ _ h => h) (hK7 _ _ _ _ _ ?_))
      clear hK7
      refine wp_reg ?_
      refine ol_r (r_move rfl) rfl ?_
      refine ol_r (r_add rfl rfl (by omega)) rfl ?_
      refine ol_r (r_assign rfl) rfl ?_
      refine ol_nil (to_k0 (fun _ _ h => h) (hK4 ((k + 1, _, _)) _ _ ?_ ?_ (sub_cons rfl (sub_cons rfl (sub_cons rfl sub_nil))) (sub_cons rfl (sub_cons rfl (sub_cons rfl (sub_cons rfl (sub_cons rfl sub_nil))))) (by exact subH_nil) (subH_same rfl (subH_same rfl (subH_same rfl (subH_same rfl (subH_same rfl subH_nil)))))))
      ·try dsimp only
       first
         | exact ⟨by omega, by omega, wst_yes hk1 hW (by dsimp only; omega)⟩
      ·try dsimp only
       omega
     ·refine wp_skip' (to_k0 (fun _ _ h => h) (hK7 _ _ _ _ _ ?_))
      clear hK7
      refine wp_reg ?_
      refine ol_r (r_move rfl) rfl ?_
      refine ol_r (r_add rfl rfl (by omega)) rfl ?_
      refine ol_r (r_assign rfl) rfl ?_
      refine ol_nil (to_k0 (fun _ _ h => h) (hK4 ((k + 1, _, _)) _ _ ?_ ?_ (sub_cons rfl (sub_cons rfl (sub_cons rfl sub_nil))) (sub_cons rfl (sub_cons rfl (sub_cons rfl (sub_cons rfl (sub_cons rfl sub_nil))))) (by exact subH_nil) (subH_same rfl (subH_same rfl (subH_same rfl (subH_same rfl (subH_same rfl subH_nil)))))))
      ·try dsimp only
       first
         | exact ⟨by omega, by omega, wst_no hk1 hW (by dsimp only; omega)⟩
      ·try dsimp only
       omega
    ·refine wp_exit' (to_k0 (fun _ _ h => h) (hK2 _ _ _ _ _ ?_))
     clear hK2
     refine wp_seq' fun K10 hK10 => ?_
     refine wp_reg ?_
     have hkj : k = j := by omega
     subst hkj
     have hwo := worst_is hW
     dsimp only at hwo
     refine ol_r (r_move rfl) rfl ?_
     refine ol_r (r_geq rfl rfl) rfl ?_
     refine ol_nil (to_k0 (fun _ _ h => h) (hK10 _ _ _ _ _ ?_))
     clear hK10
     refine wp_condD rfl (fun hc33 => ?_) (fun hc33 => ?_)
     ·refine wp_seq' fun K11 hK11 => ?_
      refine wp_reg ?_
      obtain ⟨m, hm0, hm1, hm2⟩ : ∃ m : Nat, far = m ∧ i < m ∧ m < k := by
        rcases worst_bd ss (most * most) i k with h | ⟨m, h, h2, h3⟩
        · omega
        · exact ⟨m, by omega, h2, h3⟩
      subst hm0
      refine ol_r (r_ld (id := 109) rfl rfl rfl sc75) rfl ?_
      refine ol_r (r_move rfl) rfl ?_
      refine ol_r (r_move rfl) rfl ?_
      refine ol_call rfl rfl cb57 rfl (fun w1 hb1 hs1 hB1 => ?_)
      refine Calls.mono (ih i m ys oa on oc _ hB1 hm1 (by omega) (by omega) hys hon (hl.below hb1) (hs1.sub (subH_same rfl (subH_same rfl (subH_same rfl (subH_same rfl (subH_same rfl subH_nil))))))) ?_
      rintro e w2 ⟨oa2, on2, oc2, hon2, rfl, hb2, hs2, hB2, hk2⟩
      have hsl := simpL_len ss (most * most) f i m
      rw [List.length_append] at hon2
      refine After.sat rfl hb1 hb2 hs2 hB2 (hk2.imp fun _ h => h.elim) ?_
      clear hk2 hs2 hb2 hB2 hB1 hs1 hb1 w2 w1
      refine ol_nil (to_k0 (fun _ _ h => h) (hK11 _ _ _ _ _ ?_))
      clear hK11
      refine wp_seq' fun K12 hK12 => ?_
      refine wp_reg ?_
      refine ol_r (r_ld (id := 108) rfl rfl rfl sc37) rfl ?_
      refine ol_r (r_move rfl) rfl ?_
      refine ol_bs1 40 rfl rfl rw37 rfl rfl rfl fun a40 => ?_
      refine ol_append1 (id := 3008) (id2 := 40) rfl rfl rfl rfl rfl rw37 (by omega) rfl fun a41 c41 => ?_
      refine ol_store (id := 108) rfl rfl rfl rfl sz37 rfl rfl (by first | decide | exact Nat.zero_lt_succ _ | simp) ?_
      refine ol_nil (to_k0 (fun _ _ h => h) (hK12 _ _ _ _ _ ?_))
      clear hK12
      refine wp_reg ?_
      refine ol_r (r_ld (id := 109) rfl rfl rfl sc75) rfl ?_
      refine ol_r (r_move rfl) rfl ?_
      refine ol_r (r_move rfl) rfl ?_
      refine ol_call rfl rfl cb57 rfl (fun w1 hb1 hs1 hB1 => ?_)
      refine Calls.mono (ih m k (ys ++ simpL ss (most * most) f i m ++ [(m : Int)]) _ _ _ _ hB1 hm2 hj (by omega) (by simp; omega) (by omega) (hl.below hb1) (hs1.sub (subH_row rfl (by rw [Enc.enc_append]; rfl) (subH_blk rfl (sub_cons rfl sub_nil) (subH_same rfl (subH_same rfl (subH_same rfl subH_nil))))))) ?_
      rintro e w2 ⟨oa3, on3, oc3, hon3, rfl, hb2, hs2, hB2, hk2⟩
      refine After.sat rfl hb1 hb2 hs2 hB2 (hk2.imp fun _ h => h.elim) ?_
      clear hk2 hs2 hb2 hB2 hB1 hs1 hb1 w2 w1
      refine ol_nil (hQ.fall rvs0 (fun _ _ h => h) fun w hb hs hB hkd => ?_)
      rw [simpL_some hwo]
      rw [List.append_assoc, List.append_assoc] at hon3 hs
      exact ⟨_, _, _, by rw [List.append_assoc]; exact hon3, rfl, hb, hs.sub (subH_row rfl (by rw [List.append_assoc]) (subH_same rfl (subH_same rfl (subH_same rfl (subH_same rfl subH_nil))))), hB, hkd⟩
     ·refine wp_skip' (hQ.fall rvs0 (fun _ _ h => h) fun w hb hs hB hkd => ?_)
      rw [simpL_none (by omega), List.append_nil]
      exact ⟨_, _, _, hys, rfl, hb, hs.sub (subH_same rfl (subH_same rfl (subH_same rfl (subH_same rfl (subH_same rfl subH_nil))))), hB, hkd⟩
theorem simpleL_big {ss : List SmpR} {M : Int} (h : 1 < ss.length) : simpleL ss M = [0] ++ simpL ss M ss.length 0 (ss.length - 1) ++ [((ss.length - 1 : Nat) : Int)] := by unfold simpleL; rw [if_neg (by omega), if_neg (by omega)]
theorem simpleL_one {ss : List SmpR} {M : Int} (h : ss.length = 1) : simpleL ss M = [0] := by unfold simpleL; rw [if_neg (by omega), if_pos h]
theorem simpleL_nil {ss : List SmpR} {M : Int} (h : ss.length = 0) : simpleL ss M = [] := if_pos h
theorem track_Simple (A : ActV) (most : Int) (w : World) (hA : A.Ok w.heap.size w) :
    Calls Try.prog 17 #[.agg #[.string A.name, .int .i64 A.sport, .int .i64 A.start, .slice A.sa A.sn A.sc, .slice A.la A.ln A.lc, .slice A.ta A.tn A.tc], .int .i64 most] w fun e w' => ∃ b m k, e = .returned (.tuple #[.slice b m k, .int .i64 (simpleR A.d most).2]) ∧ Fresh encI 3 w w' b m k (simpleR A.d most).1 := by
  have hsn := hA.s.len
  have hlr := hA.s
  refine enterQ (N := 40) (C := fun _ => True) (H := []) (B := w.heap.size) (args := [_, _]) Try.func17 rfl rfl rfl (Nat.le_refl _) (Sat.nil _ _) fun Q hQ => ?_
  refine wp_seq' fun K1 hK1 => ?_
  refine wp_reg ?_
  refine ol_box 2 rfl rfl rfl fun b2 => ?_
  refine ol_box 3 rfl rfl rfl fun b3 => ?_
  refine ol_r (r_assign rfl) rfl ?_
  refine ol_r (r_assign rfl) rfl ?_
  refine ol_nil (to_k0 (fun _ _ h => h) (hK1 _ _ _ _ _ ?_))
  clear hK1
  refine wp_seq' fun K2 hK2 => ?_
  refine wp_seq' fun K3 hK3 => ?_
  refine wp_reg ?_
  refine ol_r (r_lda (id := 2) (n := 6) rfl rfl rfl ag26) rfl ?_
  refine ol_r (r_ld (id := 3) rfl rfl rfl sc3) rfl ?_
  refine ol_call rfl rfl cb56 rfl (fun w1 hb1 hs1 hB1 => Calls.mono (track_checkFewer A most 5000 _ (hA.at hb1 hB1)) ?_)
  rintro e w2 ⟨rfl, hb2⟩
  refine After.below rfl hb1 hs1 hB1 hb2 ?_
  clear hb2 hB1 hs1 hb1 w2 w1
  refine ol_r (r_assign rfl) rfl ?_
  refine ol_nil (to_k0 (fun _ _ h => h) (hK3 _ _ _ _ _ ?_))
  clear hK3
  refine wp_seq' fun K4 hK4 => ?_
  refine wp_reg ?_
  refine ol_r (r_move rfl) rfl ?_
  refine ol_r (r_neq rfl rfl) rfl ?_
  refine ol_nil (to_k0 (fun _ _ h => h) (hK4 _ _ _ _ _ ?_))
  clear hK4
  refine wp_condD rfl (fun hc14 => ?_) (fun hc14 => ?_)
  ·refine wp_seq' fun K5 hK5 => ?_
   refine wp_reg ?_
   refine ol_r (r_move rfl) rfl ?_
   refine ol_r (r_assign rfl) rfl ?_
   refine ol_r (r_assign rfl) rfl ?_
   refine ol_nil (to_k0 (fun _ _ h => h) (hK5 _ _ _ _ _ ?_))
   clear hK5
   refine hQ.ret (rvs2 (rv_t rfl) (rv_t rfl)) (fun _ _ h => h) fun w hb hs hB hkd => ?_
   have h := simpleR_e (a := A.d) hc14
   exact ⟨none, 0, 0, by rw [h], by rw [h]; exact Fresh.nil hb⟩
  ·refine wp_skip' (to_k0 (fun _ _ h => h) (hK2 _ _ _ _ _ ?_))
   clear hK2
   refine wp_seq' fun K6 hK6 => ?_
   refine wp_reg ?_
   obtain ⟨h0, hmost, hlen⟩ := fewErr_inv (Decidable.not_not.1 hc14)
   dsimp only [ActV.d] at hlen
   have hok : SmpOk A.start A.ss := (goodA h0).smp
   have hl20 := hok.len
   refine ol_r (r_fa (o' := 3) rfl fl26_3 rfl) rfl ?_
   refine ol_r (r_ld (id := 2) rfl rfl rfl sc22) rfl ?_
   refine ol_alloc 7 z22 rfl fun b7 => ?_
   refine ol_store (id := 7) rfl rfl rfl rfl sz22 rfl rfl (by first | decide | exact Nat.zero_lt_succ _ | simp) ?_
   refine ol_nil (to_k0 (fun _ _ h => h) (hK6 _ _ _ _ _ ?_))
   clear hK6
   refine wp_seq' fun K7 hK7 => ?_
   refine wp_reg ?_
   refine ol_alloc 8 z37 rfl fun b8 => ?_
   refine ol_nilrow 3008 3 1 ?_
   refine ol_nil (to_k0 (fun _ _ h => h) (hK7 _ _ _ _ _ ?_))
   clear hK7
   refine wp_seq' fun K8 hK8 => ?_
   refine wp_reg ?_
   refine ol_alloc 9 z75 rfl fun b9 => ?_
   refine ol_nil (to_k0 (fun _ _ h => h) (hK8 _ _ _ _ _ ?_))
   clear hK8
   refine wp_seq' fun K9 hK9 => ?_
   refine wp_reg ?_
   refine ol_r (r_func rfl) rfl ?_
   refine ol_store (id := 9) rfl rfl rfl rfl sz75 rfl rfl (by first | decide | exact Nat.zero_lt_succ _ | simp) ?_
   refine ol_nil (to_k0 (fun _ _ h => h) (hK9 _ _ _ _ _ ?_))
   clear hK9
   refine wp_seq' fun K10 hK10 => ?_
   refine wp_seq' fun K11 hK11 => ?_
   refine wp_reg ?_
   refine ol_r (r_ld (id := 7) rfl rfl rfl sc22) rfl ?_
   refine ol_r (r_len rfl sl22) rfl ?_
   refine ol_r (r_gtr rfl rfl) rfl ?_
   refine ol_nil (to_k0 (fun _ _ h => h) (hK11 _ _ _ _ _ ?_))
   clear hK11
   refine wp_condD rfl (fun hc21 => ?_) (fun hc21 => ?_)
   ·refine wp_reg ?_
    refine ol_r (r_ld (id := 8) rfl rfl rfl sc37) rfl ?_
    refine ol_bs1 23 rfl rfl rw37 rfl rfl rfl fun a23 => ?_
    refine ol_append1 (id := 3008) (id2 := 23) rfl rfl rfl rfl rfl rw37 (by omega) rfl fun a24 c24 => ?_
    refine ol_store (id := 8) rfl rfl rfl rfl sz37 rfl rfl (by first | decide | exact Nat.zero_lt_succ _ | simp) ?_
    refine ol_nil (to_k0 (fun _ _ h => h) (hK10 _ _ _ _ _ ?_))
    clear hK10
    refine wp_seq' fun K12 hK12 => ?_
    refine wp_seq' fun K13 hK13 => ?_
    refine wp_reg ?_
    refine ol_r (r_ld (id := 7) rfl rfl rfl sc22) rfl ?_
    refine ol_r (r_len rfl sl22) rfl ?_
    refine ol_r (r_gtr rfl rfl) rfl ?_
    refine ol_nil (to_k0 (fun _ _ h => h) (hK13 _ _ _ _ _ ?_))
    clear hK13
    refine wp_condD rfl (fun hc27 => ?_) (fun hc27 => ?_)
    ·refine wp_seq' fun K14 hK14 => ?_
     refine wp_reg ?_
     refine ol_r (r_ld (id := 9) rfl rfl rfl sc75) rfl ?_
     refine ol_r (r_ld (id := 7) rfl rfl rfl sc22) rfl ?_
     refine ol_r (r_len rfl sl22) rfl ?_
     refine ol_r (r_sub rfl rfl (by omega)) rfl ?_
     have e1 : (A.sn : Int) - 1 = ((A.ss.length - 1 : Nat) : Int) := by omega
     rw [e1]
     refine ol_call rfl rfl cb57 rfl (fun w1 hb1 hs1 hB1 => ?_)
     refine Calls.mono (simple_keep w.heap.size b3 b7 b9 b8 _ _ _ _ A.ss A.start most hok hmost A.ss.length 0 (A.ss.length - 1) [0] _ _ _ _ hB1 (by omega) (by omega) (by omega) rfl (Nat.le_refl _) (hA.s.below hb1) (hs1.keyLe [(3008, 3008), (8, 108), (9, 109), (7, 107), (3, 103)] (keyLe_cons rfl (Ent.le_refl _) (keyLe_cons rfl (le_blk (sub_cons rfl sub_nil)) (keyLe_cons rfl (le_blk (sub_cons rfl sub_nil)) (keyLe_cons rfl (le_blk (sub_cons rfl sub_nil)) (keyLe_cons rfl (le_blk (sub_cons rfl sub_nil)) keyLe_nil))))) (by decide))) ?_
     rintro e w2 ⟨oa2, on2, oc2, hon2, rfl, hb2, hs2, hB2, hk2⟩
     have hsl := simpL_len A.ss (most * most) A.ss.length 0 (A.ss.length - 1)
     simp only [List.length_append, List.length_cons, List.length_nil] at hon2
     refine After.sat rfl hb1 hb2 (hs2.keys [(3008, 3008), (108, 8), (109, 9), (107, 7), (103, 3)] (keyed_cons rfl (keyed_cons rfl (keyed_cons rfl (keyed_cons rfl (keyed_cons rfl keyed_nil))))) (by decide)) hB2 (hk2.imp fun _ h => h.elim) ?_
     clear hk2 hs2 hb2 hB2 hB1 hs1 hb1 w2 w1
     refine ol_nil (to_k0 (fun _ _ h => h) (hK14 _ _ _ _ _ ?_))
     clear hK14
     refine wp_reg ?_
     refine ol_r (r_ld (id := 8) rfl rfl rfl sc37) rfl ?_
     refine ol_r (r_ld (id := 7) rfl rfl rfl sc22) rfl ?_
     refine ol_r (r_len rfl sl22) rfl ?_
     refine ol_r (r_sub rfl rfl (by omega)) rfl ?_
     refine ol_bs1 37 rfl rfl rw37 rfl rfl rfl fun a37 => ?_
     refine ol_append1 (id := 3008) (id2 := 37) rfl rfl rfl rfl rfl rw37 (by omega) rfl fun a38 c38 => ?_
     refine ol_store (id := 8) rfl rfl rfl rfl sz37 rfl rfl (by first | decide | exact Nat.zero_lt_succ _ | simp) ?_
     refine ol_nil (to_k0 (fun _ _ h => h) (hK12 _ _ _ _ _ ?_))
     clear hK12
     refine wp_seq' fun K15 hK15 => ?_
     refine wp_reg ?_
     refine ol_r (r_ld (id := 8) rfl rfl rfl sc37) rfl ?_
     refine ol_r (r_assign rfl) rfl ?_
     refine ol_r (r_assign rfl) rfl ?_
     refine ol_nil (to_k0 (fun _ _ h => h) (hK15 _ _ _ _ _ ?_))
     clear hK15
     refine hQ.ret (rvs2 (rv_t rfl) (rv_t rfl)) (fun _ _ h => h) fun w hb hs hB hkd => ?_
     have h := simpleR_0 (a := A.d) (Decidable.not_not.1 hc14)
     have e2 : encI.enc (simpleL A.ss (most * most)) = encI.enc ([0] ++ simpL A.ss (most * most) A.ss.length 0 (A.ss.length - 1)) ++ [.int .i64 ((A.sn : Int) - 1)] := by
       rw [simpleL_big (by omega), Enc.enc_append, ← e1]; rfl
     exact ⟨_, _, _, by rw [h], hb, by rw [h]; show World.ownsRow _ _ _ _ _ _ (encI.enc (simpleL A.ss (most * most))); rw [e2]; exact hs.ok 3008 _ rfl⟩
    ·refine wp_skip' (to_k0 (fun _ _ h => h) (hK12 _ _ _ _ _ ?_))
     clear hK12
     refine wp_seq' fun K16 hK16 => ?_
     refine wp_reg ?_
     refine ol_r (r_ld (id := 8) rfl rfl rfl sc37) rfl ?_
     refine ol_r (r_assign rfl) rfl ?_
     refine ol_r (r_assign rfl) rfl ?_
     refine ol_nil (to_k0 (fun _ _ h => h) (hK16 _ _ _ _ _ ?_))
     clear hK16
     refine hQ.ret (rvs2 (rv_t rfl) (rv_t rfl)) (fun _ _ h => h) fun w hb hs hB hkd => ?_
     have h := simpleR_0 (a := A.d) (Decidable.not_not.1 hc14)
     exact ⟨_, _, _, by rw [h], hb, by rw [h]; show World.ownsRow _ _ _ _ _ _ (encI.enc (simpleL A.ss (most * most))); rw [simpleL_one (by omega)]; exact hs.ok 3008 _ rfl⟩
   ·refine wp_skip' (to_k0 (fun _ _ h => h) (hK10 _ _ _ _ _ ?_))
    clear hK10
    refine wp_seq' fun K17 hK17 => ?_
    refine wp_seq' fun K18 hK18 => ?_
    refine wp_reg ?_
    refine ol_r (r_ld (id := 7) rfl rfl rfl sc22) rfl ?_
    refine ol_r (r_len rfl sl22) rfl ?_
    refine ol_r (r_gtr rfl rfl) rfl ?_
    refine ol_nil (to_k0 (fun _ _ h => h) (hK18 _ _ _ _ _ ?_))
    clear hK18
    refine wp_condD rfl (fun hc27 => ?_) (fun hc27 => ?_)
    ·refine wp_seq' fun K19 hK19 => ?_
     refine wp_reg ?_
     refine ol_r (r_ld (id := 9) rfl rfl rfl sc75) rfl ?_
     refine ol_r (r_ld (id := 7) rfl rfl rfl sc22) rfl ?_
     refine ol_r (r_len rfl sl22) rfl ?_
     refine ol_r (r_sub rfl rfl (by omega)) rfl ?_
     have e1 : (A.sn : Int) - 1 = ((A.ss.length - 1 : Nat) : Int) := by omega
     rw [e1]
     refine ol_call rfl rfl cb57 rfl (fun w1 hb1 hs1 hB1 => ?_)
     refine Calls.mono (simple_keep w.heap.size b3 b7 b9 b8 _ _ _ _ A.ss A.start most hok hmost A.ss.length 0 (A.ss.length - 1) [] _ _ _ _ hB1 (by omega) (by omega) (by omega) rfl (Nat.zero_le _) (hA.s.below hb1) (hs1.keyLe [(3008, 3008), (8, 108), (9, 109), (7, 107), (3, 103)] (keyLe_cons rfl (Ent.le_refl _) (keyLe_cons rfl (le_blk (sub_cons rfl sub_nil)) (keyLe_cons rfl (le_blk (sub_cons rfl sub_nil)) (keyLe_cons rfl (le_blk (sub_cons rfl sub_nil)) (keyLe_cons rfl (le_blk (sub_cons rfl sub_nil)) keyLe_nil))))) (by decide))) ?_
     rintro e w2 ⟨oa2, on2, oc2, hon2, rfl, hb2, hs2, hB2, hk2⟩
     have hsl := simpL_len A.ss (most * most) A.ss.length 0 (A.ss.length - 1)
     simp only [List.length_append, List.length_cons, List.length_nil] at hon2
     refine After.sat rfl hb1 hb2 (hs2.keys [(3008, 3008), (108, 8), (109, 9), (107, 7), (103, 3)] (keyed_cons rfl (keyed_cons rfl (keyed_cons rfl (keyed_cons rfl (keyed_cons rfl keyed_nil))))) (by decide)) hB2 (hk2.imp fun _ h => h.elim) ?_
     clear hk2 hs2 hb2 hB2 hB1 hs1 hb1 w2 w1
     refine ol_nil (to_k0 (fun _ _ h => h) (hK19 _ _ _ _ _ ?_))
     clear hK19
     refine wp_reg ?_
     refine ol_r (r_ld (id := 8) rfl rfl rfl sc37) rfl ?_
     refine ol_r (r_ld (id := 7) rfl rfl rfl sc22) rfl ?_
     refine ol_r (r_len rfl sl22) rfl ?_
     refine ol_r (r_sub rfl rfl (by omega)) rfl ?_
     refine ol_bs1 37 rfl rfl rw37 rfl rfl rfl fun a37 => ?_
     refine ol_append1 (id := 3008) (id2 := 37) rfl rfl rfl rfl rfl rw37 (by omega) rfl fun a38 c38 => ?_
     refine ol_store (id := 8) rfl rfl rfl rfl sz37 rfl rfl (by first | decide | exact Nat.zero_lt_succ _ | simp) ?_
     refine ol_nil (to_k0 (fun _ _ h => h) (hK17 _ _ _ _ _ ?_))
     clear hK17
     refine wp_seq' fun K20 hK20 => ?_
     refine wp_reg ?_
     refine ol_r (r_ld (id := 8) rfl rfl rfl sc37) rfl ?_
     refine ol_r (r_assign rfl) rfl ?_
     refine ol_r (r_assign rfl) rfl ?_
     refine ol_nil (to_k0 (fun _ _ h => h) (hK20 _ _ _ _ _ ?_))
     clear hK20
     refine hQ.ret (rvs2 (rv_t rfl) (rv_t rfl)) (fun _ _ h => h) fun w hb hs hB hkd => ?_
     exfalso
     omega
    ·refine wp_skip' (to_k0 (fun _ _ h => h) (hK17 _ _ _ _ _ ?_))
     clear hK17
     refine wp_seq' fun K21 hK21 => ?_
     refine wp_reg ?_
     refine ol_r (r_ld (id := 8) rfl rfl rfl sc37) rfl ?_
     refine ol_r (r_assign rfl) rfl ?_
     refine ol_r (r_assign rfl) rfl ?_
     refine ol_nil (to_k0 (fun _ _ h => h) (hK21 _ _ _ _ _ ?_))
     clear hK21
     refine hQ.ret (rvs2 (rv_t rfl) (rv_t rfl)) (fun _ _ h => h) fun w hb hs hB hkd => ?_
     have h := simpleR_0 (a := A.d) (Decidable.not_not.1 hc14)
     exact ⟨_, _, _, by rw [h], hb, by rw [h]; show World.ownsRow _ _ _ _ _ _ (encI.enc (simpleL A.ss (most * most))); rw [simpleL_nil (by omega)]; exact hs.ok 3008 _ rfl⟩
/-- A row of truths, by a function. -/
def tabB (n : Nat) (p : Nat → Bool) : List Bool := (List.range n).map p
@[simp] theorem tabB_len (n : Nat) (p : Nat → Bool) : (tabB n p).length = n := by simp [tabB]
theorem tabB_get {n : Nat} {p : Nat → Bool} {k : Nat} {x : Bool} (h : (tabB n p)[k]? = some x) : k < n ∧ x = p k := by
  have hk := (List.getElem?_eq_some_iff.1 h).1
  rw [tabB_len] at hk
  refine ⟨hk, ?_⟩
  simp [tabB, hk] at h
  exact h.symm
theorem tabB_congr {n : Nat} {p q : Nat → Bool} (h : ∀ k, k < n → p k = q k) : tabB n p = tabB n q := List.map_congr_left fun k hk => h k (List.mem_range.1 hk)
theorem tabB_set {n : Nat} (p : Nat → Bool) {k : Nat} (hk : k < n) : (tabB n p).set k true = tabB n fun j => p j || decide (j = k) := by
  apply List.ext_getElem (by simp)
  intro i h1 h2
  rw [List.getElem_set]
  split
  · rename_i h; subst h; simp [tabB]
  · rename_i h; simp [tabB]; exact fun e => absurd e.symm h
theorem tabB_new (n : Nat) : List.replicate n false = tabB n fun _ => false := by
  apply List.ext_getElem (by simp)
  intro i h1 h2
  simp [tabB]
def encBo : Enc Bool := { size := 1, cells := fun x => [.bool x], val := fun x => .bool x, len := fun _ => rfl, ones := fun _ u h => by simp at h; subst h; rfl, pos := by decide, vc := fun _ => rfl }
theorem ty4 : Ty Try.prog 4 encBo := .inl ⟨sc4, fun _ => rfl⟩
theorem keep_far (B : Nat) (sa : Option Addr) (sn sc : Nat) (ss : List SmpR) (st most : Int) (ka : Option Addr) (kn kc : Nat) (hkn : ss.length = kn) (hok : SmpOk st ss) (hm : 0 ≤ most ∧ most ≤ 100000000) :
    ∀ (f i j : Nat) (p : Nat → Bool) (w : World), B ≤ w.heap.size → i ≤ j → j < ss.length → j - i < f → Rd encSmp B w sa sn sc ss →
    Sat B w [(300, .row ka kn kc (encBo.enc (tabB ss.length p)) 4 1)] →
    Calls Try.prog 59 #[.slice sa sn sc, .int .i64 i, .int .i64 j, .int .i64 most, .slice ka kn kc] w fun e w' =>
      e = .returned (.tuple #[]) ∧ Below B w w' ∧ Sat B w' [(300, .row ka kn kc (encBo.enc (tabB ss.length fun k => p k || decide ((k : Int) ∈ simpL ss (most * most) f i j))) 4 1)] ∧ B ≤ w'.heap.size ∧ Kd (fun _ => False) w w' := by
  have hl20 := hok.len
  have hmm := mul_bd (a := most) (b := most) (A := 100000000) (B := 100000000) (by omega) (by omega) (by omega) (by omega)
  intro f
  induction f with
  | zero => intro i j p w hB hij hj hf; omega
  | succ f ih =>
   intro i j p w hB hij hj hf hl hs
   have hn := hl.len
   refine enterQ (N := 61) (C := fun _ => False) (H := [(300, .row ka kn kc (encBo.enc (tabB ss.length p)) 4 1)]) (B := B) (args := [_, _, _, _, _]) Try.func59 rfl rfl rfl (hB) (hs) fun Q hQ => ?_
   refine wp_seq' fun K1 hK1 => ?_
   refine wp_reg ?_
   refine ol_r (r_assign rfl) rfl ?_
   refine ol_nil (to_k0 (fun _ _ h => h) (hK1 _ _ _ _ _ ?_))
   clear hK1
   refine wp_seq' fun K2 hK2 => ?_
   refine wp_seq' fun K3 hK3 => ?_
   refine wp_reg ?_
   refine ol_r (r_move rfl) rfl ?_
   refine ol_r (r_add rfl rfl (by omega)) rfl ?_
   refine ol_r (r_assign rfl) rfl ?_
   refine ol_nil (to_k0 (fun _ _ h => h) (hK3 _ _ _ _ _ ?_))
   clear hK3
   refine wp_block' ?_
   apply wp_loopM (σ := Nat × Int) (fun s => i + 1 ≤ s.1 ∧ s.1 - (i + 1) ≤ j - (i + 1) ∧ (wst (fun k => errI ss i k j) (most * most) i (s.1 - (i + 1))).1 = s.2) (fun s => [(11, .int .i64 s.1), (10, .int .i64 s.2)]) [(0, _), (1, _), (2, _), (3, _), (4, _)] (fun s => []) [(300, _)] (fun s => j - s.1) ((i + 1, -1))
   ·try dsimp only
    exact ⟨Nat.le_refl _, by omega, by rw [Nat.sub_self]; rfl⟩
   ·exact (sub_cons rfl (sub_cons rfl sub_nil))
   ·exact (sub_cons rfl (sub_cons rfl (sub_cons rfl (sub_cons rfl (sub_cons rfl sub_nil)))))
   ·exact subH_nil
   ·exact (subH_same rfl subH_nil)
   ·rintro ⟨k, far⟩ ⟨hk1, hk2, hW⟩
    dsimp only at hk1 hk2 hW ⊢
    intro K4 hK4
    refine wp_seq' fun K5 hK5 => ?_
    refine wp_seq' fun K6 hK6 => ?_
    refine wp_reg ?_
    refine ol_r (r_move rfl) rfl ?_
    refine ol_r (r_move rfl) rfl ?_
    refine ol_r (r_lss rfl rfl) rfl ?_
    refine ol_nil (to_k0 (fun _ _ h => h) (hK6 _ _ _ _ _ ?_))
    clear hK6
    refine wp_condD rfl (fun hc17 => ?_) (fun hc17 => ?_)
    ·refine wp_skip' (to_k0 (fun _ _ h => h) (hK5 _ _ _ _ _ ?_))
     clear hK5
     refine wp_seq' fun K7 hK7 => ?_
     refine wp_block' ?_
     refine wp_seq' fun K8 hK8 => ?_
     refine wp_reg ?_
     refine ol_r (r_move rfl) rfl ?_
     refine ol_r (r_move rfl) rfl ?_
     refine ol_r (r_move rfl) rfl ?_
     refine ol_r (r_move rfl) rfl ?_
     refine ol_call rfl rfl cb109 rfl (fun w1 hb1 hs1 hB1 => Calls.mono (ref3_fault _ _ _ ss st i k j _ (hl.at hb1 hB1) hok (by omega) (by omega) hj) ?_)
     rintro e w2 ⟨rfl, hb2⟩
     refine After.below rfl hb1 hs1 hB1 hb2 ?_
     clear hb2 hB1 hs1 hb1 w2 w1
     refine ol_r (r_assign rfl) rfl ?_
     refine ol_nil (to_k0 (fun _ _ h => h) (hK8 _ _ _ _ _ ?_))
     clear hK8
     refine wp_seq' fun K9 hK9 => ?_
     refine wp_reg ?_
     refine ol_r (r_move rfl) rfl ?_
     refine ol_r (r_move rfl) rfl ?_
     refine ol_r (r_move rfl) rfl ?_
     refine ol_r (r_mul rfl rfl (by omega)) rfl ?_
     refine ol_r (r_gtr rfl rfl) rfl ?_
     refine ol_r (r_move rfl) rfl ?_
     refine ol_split (d := 30) rfl (fun hs30 => ?_) (fun hs30 => ?_)
     ·have phs30 := hs30; try simp only [decide_eq_true_eq, decide_eq_false_iff_not, Bool.not_eq_true', Bool.not_eq_false', Bool.not_true, Bool.not_false] at phs30
      refine ol_g rfl rfl hs30 ?_
      refine ol_r (r_move rfl) rfl ?_
      refine ol_g rfl rfl hs30 ?_
      refine ol_r (r_lss rfl rfl) rfl ?_
      refine ol_g rfl rfl hs30 ?_
      refine ol_r (r_move rfl) rfl ?_
      refine ol_split (d := 33) rfl (fun hs33 => ?_) (fun hs33 => ?_)
      ·have phs33 := hs33; try simp only [decide_eq_true_eq, decide_eq_false_iff_not, Bool.not_eq_true', Bool.not_eq_false', Bool.not_true, Bool.not_false] at phs33
       refine ol_s rfl rfl hs33 rfl ?_
       refine ol_s rfl rfl hs33 rfl ?_
       refine ol_s rfl rfl hs33 rfl ?_
       refine ol_s rfl rfl hs33 rfl ?_
       refine ol_s rfl rfl hs33 rfl ?_
       refine ol_s rfl rfl hs33 rfl ?_
       refine ol_s rfl rfl hs33 rfl ?_
       refine ol_g rfl rfl hs30 ?_
       refine ol_r (r_pickT rfl hs33 rfl) rfl ?_
       refine ol_r (r_pickT rfl hs30 rfl) rfl ?_
       refine ol_nil (to_k0 (fun _ _ h => h) (hK9 _ _ _ _ _ ?_))
       clear hK9
       refine wp_condT rfl ?_
       refine wp_reg ?_
       refine ol_r (r_move rfl) rfl ?_
       refine ol_r (r_assign rfl) rfl ?_
       refine ol_nil (to_k0 (fun _ _ h => h) (hK7 _ _ _ _ _ ?_))
       clear hK7
       refine wp_reg ?_
       refine ol_r (r_move rfl) rfl ?_
       refine ol_r (r_add rfl rfl (by omega)) rfl ?_
       refine ol_r (r_assign rfl) rfl ?_
       refine ol_nil (to_k0 (fun _ _ h => h) (hK4 ((k + 1, _)) _ _ ?_ ?_ (sub_cons rfl (sub_cons rfl sub_nil)) (sub_cons rfl (sub_cons rfl (sub_cons rfl (sub_cons rfl (sub_cons rfl sub_nil))))) (by exact subH_nil) (subH_same rfl subH_nil)))
       ·try dsimp only
        first
          | exact ⟨by omega, by omega, far_yes hk1 hW phs30 (.inl phs33)⟩
       ·try dsimp only
        omega
      ·have phs33 := hs33; try simp only [decide_eq_true_eq, decide_eq_false_iff_not, Bool.not_eq_true', Bool.not_eq_false', Bool.not_true, Bool.not_false] at phs33
       refine ol_g rfl rfl hs33 ?_
       first
         | (obtain ⟨m0, hm0, hm1, hm2, hm3⟩ := far_some hW phs33
            subst hm0)
         | skip
       refine ol_r (r_move rfl) rfl ?_
       refine ol_g rfl rfl hs33 ?_
       refine ol_r (r_move rfl) rfl ?_
       refine ol_g rfl rfl hs33 ?_
       refine ol_r (r_move rfl) rfl ?_
       refine ol_g rfl rfl hs33 ?_
       refine ol_r (r_move rfl) rfl ?_
       refine ol_g rfl rfl hs33 ?_
       refine ol_r (r_move rfl) rfl ?_
       refine ol_g rfl rfl hs33 ?_
       refine ol_call rfl rfl cb109 rfl (fun w1 hb1 hs1 hB1 => Calls.mono (ref3_fault _ _ _ ss st i m0 j _ (hl.at hb1 hB1) hok (by omega) (by omega) hj) ?_)
       rintro e w2 ⟨rfl, hb2⟩
       refine After.below rfl hb1 hs1 hB1 hb2 ?_
       clear hb2 hB1 hs1 hb1 w2 w1
       refine ol_g rfl rfl hs33 ?_
       refine ol_r (r_gtr rfl rfl) rfl ?_
       refine ol_g rfl rfl hs30 ?_
       refine ol_r (r_pickF rfl hs33 rfl) rfl ?_
       refine ol_r (r_pickT rfl hs30 rfl) rfl ?_
       refine ol_nil (to_k0 (fun _ _ h => h) (hK9 _ _ _ _ _ ?_))
       clear hK9
       refine wp_condD rfl (fun hc42 => ?_) (fun hc42 => ?_)
       ·refine wp_reg ?_
        refine ol_r (r_move rfl) rfl ?_
        refine ol_r (r_assign rfl) rfl ?_
        refine ol_nil (to_k0 (fun _ _ h => h) (hK7 _ _ _ _ _ ?_))
        clear hK7
        refine wp_reg ?_
        refine ol_r (r_move rfl) rfl ?_
        refine ol_r (r_add rfl rfl (by omega)) rfl ?_
        refine ol_r (r_assign rfl) rfl ?_
        refine ol_nil (to_k0 (fun _ _ h => h) (hK4 ((k + 1, _)) _ _ ?_ ?_ (sub_cons rfl (sub_cons rfl sub_nil)) (sub_cons rfl (sub_cons rfl (sub_cons rfl (sub_cons rfl (sub_cons rfl sub_nil))))) (by exact subH_nil) (subH_same rfl subH_nil)))
        ·try dsimp only
         first
           | exact ⟨by omega, by omega, far_yes hk1 hW phs30 (.inr ⟨m0, rfl, hc42⟩)⟩
        ·try dsimp only
         omega
       ·refine wp_skip' (to_k0 (fun _ _ h => h) (hK7 _ _ _ _ _ ?_))
        clear hK7
        refine wp_reg ?_
        refine ol_r (r_move rfl) rfl ?_
        refine ol_r (r_add rfl rfl (by omega)) rfl ?_
        refine ol_r (r_assign rfl) rfl ?_
        refine ol_nil (to_k0 (fun _ _ h => h) (hK4 ((k + 1, _)) _ _ ?_ ?_ (sub_cons rfl (sub_cons rfl sub_nil)) (sub_cons rfl (sub_cons rfl (sub_cons rfl (sub_cons rfl (sub_cons rfl sub_nil))))) (by exact subH_nil) (subH_same rfl subH_nil)))
        ·try dsimp only
         first
           | exact ⟨by omega, by omega, far_no hk1 hW (.inr ⟨m0, rfl, hc42⟩)⟩
        ·try dsimp only
         omega
     ·have phs30 := hs30; try simp only [decide_eq_true_eq, decide_eq_false_iff_not, Bool.not_eq_true', Bool.not_eq_false', Bool.not_true, Bool.not_false] at phs30
      refine ol_s rfl rfl hs30 rfl ?_
      refine ol_s rfl rfl hs30 rfl ?_
      refine ol_s rfl rfl hs30 rfl ?_
      refine ol_u rfl rfl rfl ?_
      refine ol_u rfl rfl rfl ?_
      refine ol_u rfl rfl rfl ?_
      refine ol_u rfl rfl rfl ?_
      refine ol_u rfl rfl rfl ?_
      refine ol_u rfl rfl rfl ?_
      refine ol_u rfl rfl rfl ?_
      refine ol_s rfl rfl hs30 rfl ?_
      refine ol_r (r_pickF rfl hs30 rfl) rfl ?_
      refine ol_nil (to_k0 (fun _ _ h => h) (hK9 _ _ _ _ _ ?_))
      clear hK9
      refine wp_condF rfl ?_
      refine wp_skip' (to_k0 (fun _ _ h => h) (hK7 _ _ _ _ _ ?_))
      clear hK7
      refine wp_reg ?_
      refine ol_r (r_move rfl) rfl ?_
      refine ol_r (r_add rfl rfl (by omega)) rfl ?_
      refine ol_r (r_assign rfl) rfl ?_
      refine ol_nil (to_k0 (fun _ _ h => h) (hK4 ((k + 1, _)) _ _ ?_ ?_ (sub_cons rfl (sub_cons rfl sub_nil)) (sub_cons rfl (sub_cons rfl (sub_cons rfl (sub_cons rfl (sub_cons rfl sub_nil))))) (by exact subH_nil) (subH_same rfl subH_nil)))
      ·try dsimp only
       first
         | exact ⟨by omega, by omega, far_no hk1 hW (.inl phs30)⟩
      ·try dsimp only
       omega
    ·refine wp_exit' (to_k0 (fun _ _ h => h) (hK2 _ _ _ _ _ ?_))
     clear hK2
     refine wp_seq' fun K10 hK10 => ?_
     refine wp_seq' fun K11 hK11 => ?_
     refine wp_reg ?_
     have hkj : k - (i + 1) = j - (i + 1) := by omega
     rw [hkj] at hW
     have hwo : worst ss (most * most) i j = far := (worst_is (r := wst (fun x => errI ss i x j) (most * most) i (j - (i + 1))) rfl).trans hW
     refine ol_r (r_move rfl) rfl ?_
     refine ol_r (r_lss rfl rfl) rfl ?_
     refine ol_nil (to_k0 (fun _ _ h => h) (hK11 _ _ _ _ _ ?_))
     clear hK11
     refine wp_condD rfl (fun hc45 => ?_) (fun hc45 => ?_)
     ·refine hQ.ret rvs0 (fun _ _ h => h) fun w hb hs hB hkd => ?_
      rw [simpL_none (by omega)]
      exact ⟨rfl, hb, hs.sub (subH_row rfl (congrArg encBo.enc (tabB_congr fun x _ => by simp)) subH_nil), hB, hkd⟩
     ·refine wp_skip' (to_k0 (fun _ _ h => h) (hK10 _ _ _ _ _ ?_))
      clear hK10
      refine wp_seq' fun K12 hK12 => ?_
      refine wp_reg ?_
      obtain ⟨m, hm0, hm1, hm2⟩ : ∃ m : Nat, far = m ∧ i < m ∧ m < j := by
        rcases worst_bd ss (most * most) i j with h | ⟨m, h, h2, h3⟩
        · omega
        · exact ⟨m, by omega, h2, h3⟩
      subst hm0
      refine ol_r (r_move rfl) rfl ?_
      refine ol_r (r_move rfl) rfl ?_
      refine ol_ixo (id := 300) encBo _ rfl rfl rfl rfl sl77 (by omega) rfl fun x48 hx48 => ?_
      try simp only [Int.toNat_natCast] at hx48
      try simp only [Int.toNat_natCast] at hx48
      refine ol_storeRow (id := 300) _ _ _ rfl rfl rfl rfl sz4 (by omega) ?_
      refine ol_nil (to_k0 (fun _ _ h => h) (hK12 _ _ _ _ _ ?_))
      clear hK12
      refine wp_seq' fun K13 hK13 => ?_
      refine wp_reg ?_
      refine ol_r (r_move rfl) rfl ?_
      refine ol_r (r_move rfl) rfl ?_
      refine ol_r (r_move rfl) rfl ?_
      refine ol_r (r_move rfl) rfl ?_
      refine ol_r (r_move rfl) rfl ?_
      refine ol_call rfl rfl cb59 rfl (fun w1 hb1 hs1 hB1 => ?_)
      refine Calls.mono (ih i m (fun x => p x || decide (x = m)) _ hB1 (by omega) (by omega) (by omega) (hl.below hb1) (hs1.sub (subH_row rfl (congrArg encBo.enc (by rw [Int.toNat_natCast, tabB_set _ (by omega)])) subH_nil))) ?_
      rintro e w2 ⟨rfl, hb2, hs2, hB2, hk2⟩
      refine After.sat rfl hb1 hb2 hs2 hB2 (hk2.imp fun _ h => h.elim) ?_
      clear hk2 hs2 hb2 hB2 hB1 hs1 hb1 w2 w1
      refine ol_nil (to_k0 (fun _ _ h => h) (hK13 _ _ _ _ _ ?_))
      clear hK13
      refine wp_reg ?_
      refine ol_r (r_move rfl) rfl ?_
      refine ol_r (r_move rfl) rfl ?_
      refine ol_r (r_move rfl) rfl ?_
      refine ol_r (r_move rfl) rfl ?_
      refine ol_r (r_move rfl) rfl ?_
      refine ol_call rfl rfl cb59 rfl (fun w1 hb1 hs1 hB1 => ?_)
      refine Calls.mono (ih m j _ _ hB1 (by omega) hj (by omega) (hl.below hb1) (hs1.sub (subH_same rfl subH_nil))) ?_
      rintro e w2 ⟨rfl, hb2, hs2, hB2, hk2⟩
      refine After.sat rfl hb1 hb2 hs2 hB2 (hk2.imp fun _ h => h.elim) ?_
      clear hk2 hs2 hb2 hB2 hB1 hs1 hb1 w2 w1
      refine ol_nil (hQ.fall rvs0 (fun _ _ h => h) fun w hb hs hB hkd => ?_)
      rw [simpL_some hwo]
      exact ⟨rfl, hb, hs.sub (subH_row rfl (congrArg encBo.enc (tabB_congr fun x _ => by simp only [List.mem_append, List.mem_singleton, Bool.decide_or, Int.natCast_inj]; cases p x <;> cases decide (x = m) <;> cases decide ((x : Int) ∈ simpL ss (most * most) f i m) <;> cases decide ((x : Int) ∈ simpL ss (most * most) f m j) <;> rfl)) subH_nil), hB, hkd⟩
theorem keptList_len (ss : List SmpR) (M : Int) (n : Nat) : (keptList ss M n).length ≤ n := by
  unfold keptList
  rw [List.length_map]
  have := List.length_filter_le (keptB ss M) (List.range n)
  rw [List.length_range] at this
  exact this
theorem keep0 {n m : Nat} (h : n = m) (h0 : 0 < n) : tabB n (fun x => (false || decide (x = 0)) || decide (x = n - 1)) = ((List.replicate m false).set (0 : Int).toNat true).set ((n - 1 : Nat) : Int).toNat true := by
  subst h
  rw [tabB_new, show (0 : Int).toNat = 0 from rfl, tabB_set _ (by omega), Int.toNat_natCast, tabB_set _ (by omega)]
theorem ref3_Simple (A : ActV) (most : Int) (w : World) (hA : A.Ok w.heap.size w) :
    Calls Try.prog 18 #[.agg #[.string A.name, .int .i64 A.sport, .int .i64 A.start, .slice A.sa A.sn A.sc, .slice A.la A.ln A.lc, .slice A.ta A.tn A.tc], .int .i64 most] w fun e w' => ∃ b m k, e = .returned (.tuple #[.slice b m k, .int .i64 (simpleR A.d most).2]) ∧ Fresh encI 3 w w' b m k (simpleR A.d most).1 := by
  have hsn := hA.s.len
  have hsf := hA.s.fit
  refine enterQ (N := 55) (C := fun _ => True) (H := []) (B := w.heap.size) (args := [_, _]) Try.func18 rfl rfl rfl (Nat.le_refl _) (Sat.nil _ _) fun Q hQ => ?_
  refine wp_seq' fun K1 hK1 => ?_
  refine wp_reg ?_
  refine ol_box 2 rfl rfl rfl fun b2 => ?_
  refine ol_r (r_assign rfl) rfl ?_
  refine ol_r (r_assign rfl) rfl ?_
  refine ol_nil (to_k0 (fun _ _ h => h) (hK1 _ _ _ _ _ ?_))
  clear hK1
  refine wp_seq' fun K2 hK2 => ?_
  refine wp_seq' fun K3 hK3 => ?_
  refine wp_reg ?_
  refine ol_r (r_lda (id := 2) (n := 6) rfl rfl rfl ag26) rfl ?_
  refine ol_call rfl rfl cb44 rfl (fun w1 hb1 hs1 hB1 => Calls.mono (ref2_Check A _ (hA.at hb1 hB1)) ?_)
  rintro e w2 ⟨rfl, hb2⟩
  refine After.below rfl hb1 hs1 hB1 hb2 ?_
  clear hb2 hB1 hs1 hb1 w2 w1
  refine ol_r (r_assign rfl) rfl ?_
  refine ol_nil (to_k0 (fun _ _ h => h) (hK3 _ _ _ _ _ ?_))
  clear hK3
  refine wp_seq' fun K4 hK4 => ?_
  refine wp_reg ?_
  refine ol_r (r_move rfl) rfl ?_
  refine ol_r (r_neq rfl rfl) rfl ?_
  refine ol_nil (to_k0 (fun _ _ h => h) (hK4 _ _ _ _ _ ?_))
  clear hK4
  refine wp_condD rfl (fun hc15 => ?_) (fun hc15 => ?_)
  ·refine wp_seq' fun K5 hK5 => ?_
   refine wp_reg ?_
   refine ol_r (r_move rfl) rfl ?_
   refine ol_r (r_assign rfl) rfl ?_
   refine ol_r (r_assign rfl) rfl ?_
   refine ol_nil (to_k0 (fun _ _ h => h) (hK5 _ _ _ _ _ ?_))
   clear hK5
   refine hQ.ret (rvs2 (rv_t rfl) (rv_t rfl)) (fun _ _ h => h) fun w hb hs hB hkd => ?_
   have h := simpleR_e (a := A.d) (most := most) (by rw [fewErr_e hc15]; exact hc15)
   rw [fewErr_e hc15] at h
   exact ⟨none, 0, 0, by rw [h], by rw [h]; exact Fresh.nil hb⟩
  ·refine wp_skip' (to_k0 (fun _ _ h => h) (hK2 _ _ _ _ _ ?_))
   clear hK2
   refine wp_seq' fun K6 hK6 => ?_
   refine wp_seq' fun K7 hK7 => ?_
   refine wp_reg ?_
   refine ol_r (r_move rfl) rfl ?_
   refine ol_call rfl rfl cb45 rfl (fun w1 hb1 hs1 hB1 => Calls.mono (ref3_outside _ _ _ _) ?_)
   rintro e w2 ⟨rfl, hb2⟩
   refine After.below rfl hb1 hs1 hB1 hb2 ?_
   clear hb2 hB1 hs1 hb1 w2 w1
   refine ol_nil (to_k0 (fun _ _ h => h) (hK7 _ _ _ _ _ ?_))
   clear hK7
   refine wp_condNB rfl (fun hc18 => ?_) (fun hc18 => ?_)
   ·refine wp_seq' fun K8 hK8 => ?_
    refine wp_reg ?_
    refine ol_r (r_assign rfl) rfl ?_
    refine ol_r (r_assign rfl) rfl ?_
    refine ol_nil (to_k0 (fun _ _ h => h) (hK8 _ _ _ _ _ ?_))
    clear hK8
    refine hQ.ret (rvs2 (rv_t rfl) (rv_t rfl)) (fun _ _ h => h) fun w hb hs hB hkd => ?_
    have h9 := fewErr_9 (a := A.d) (lim := 5000) (Decidable.not_not.1 hc15) (fun h => by have := inB_iff.2 h; rw [this] at hc18; cases hc18)
    have h := simpleR_e (a := A.d) (most := most) (by rw [h9]; decide)
    rw [h9] at h
    exact ⟨none, 0, 0, by rw [h], by rw [h]; exact Fresh.nil hb⟩
   ·refine wp_skip' (to_k0 (fun _ _ h => h) (hK6 _ _ _ _ _ ?_))
    clear hK6
    refine wp_seq' fun K9 hK9 => ?_
    refine wp_reg ?_
    refine ol_r (r_fa (o' := 3) rfl fl26_3 rfl) rfl ?_
    refine ol_r (r_ld (id := 2) rfl rfl rfl sc22) rfl ?_
    refine ol_r (r_len rfl sl22) rfl ?_
    refine ol_r (r_assign rfl) rfl ?_
    refine ol_nil (to_k0 (fun _ _ h => h) (hK9 _ _ _ _ _ ?_))
    clear hK9
    refine wp_seq' fun K10 hK10 => ?_
    refine wp_seq' fun K11 hK11 => ?_
    refine wp_reg ?_
    refine ol_r (r_move rfl) rfl ?_
    refine ol_r (r_gtr rfl rfl) rfl ?_
    refine ol_nil (to_k0 (fun _ _ h => h) (hK11 _ _ _ _ _ ?_))
    clear hK11
    refine wp_condD rfl (fun hc23 => ?_) (fun hc23 => ?_)
    ·refine wp_seq' fun K12 hK12 => ?_
     refine wp_reg ?_
     refine ol_r (r_assign rfl) rfl ?_
     refine ol_r (r_assign rfl) rfl ?_
     refine ol_nil (to_k0 (fun _ _ h => h) (hK12 _ _ _ _ _ ?_))
     clear hK12
     refine hQ.ret (rvs2 (rv_t rfl) (rv_t rfl)) (fun _ _ h => h) fun w hb hs hB hkd => ?_
     have h9 := fewErr_3 (a := A.d) (lim := 5000) (Decidable.not_not.1 hc15) (inB_iff.1 hc18) (by show (5000 : Int) < (A.ss.length : Int); omega)
     have h := simpleR_e (a := A.d) (most := most) (by rw [h9]; decide)
     rw [h9] at h
     exact ⟨none, 0, 0, by rw [h], by rw [h]; exact Fresh.nil hb⟩
    ·refine wp_skip' (to_k0 (fun _ _ h => h) (hK10 _ _ _ _ _ ?_))
     clear hK10
     refine wp_seq' fun K13 hK13 => ?_
     refine wp_reg ?_
     refine ol_r (r_move rfl) rfl ?_
     have h0 : chkA A.d = 0 := Decidable.not_not.1 hc15
     have hok : SmpOk A.start A.ss := (goodA h0).smp
     have hl20 := hok.len
     have hmost : 0 ≤ most ∧ most ≤ 100000000 := inB_iff.1 (by simpa using hc18)
     refine ol_make encBo (false) 25 rfl rfl rw77 z4 rfl rfl (by omega) rfl fun a25 => ?_
     refine ol_r (r_assign rfl) rfl ?_
     refine ol_nil (to_k0 (fun _ _ h => h) (hK13 _ _ _ _ _ ?_))
     clear hK13
     refine wp_seq' fun K14 hK14 => ?_
     refine wp_seq' fun K15 hK15 => ?_
     refine wp_reg ?_
     refine ol_r (r_move rfl) rfl ?_
     refine ol_r (r_gtr rfl rfl) rfl ?_
     refine ol_nil (to_k0 (fun _ _ h => h) (hK15 _ _ _ _ _ ?_))
     clear hK15
     refine wp_condD rfl (fun hc27 => ?_) (fun hc27 => ?_)
     ·refine wp_seq' fun K16 hK16 => ?_
      refine wp_reg ?_
      refine ol_r (r_move rfl) rfl ?_
      refine ol_r (r_move rfl) rfl ?_
      refine ol_r (r_move rfl) rfl ?_
      refine ol_r (r_sub rfl rfl (by omega)) rfl ?_
      refine ol_ixo (id := 25) encBo _ rfl rfl rfl rfl sl77 (by omega) rfl fun x32 hx32 => ?_
      try simp only [Int.toNat_natCast] at hx32
      try simp only [Int.toNat_natCast] at hx32
      refine ol_storeRow (id := 25) _ _ _ rfl rfl rfl rfl sz4 (by omega) ?_
      refine ol_ixo (id := 25) encBo _ rfl rfl rfl rfl sl77 (by omega) rfl fun x33 hx33 => ?_
      try simp only [Int.toNat_natCast] at hx33
      try simp only [Int.toNat_natCast] at hx33
      refine ol_storeRow (id := 25) _ _ _ rfl rfl rfl rfl sz4 (by omega) ?_
      refine ol_nil (to_k0 (fun _ _ h => h) (hK16 _ _ _ _ _ ?_))
      clear hK16
      refine wp_reg ?_
      refine ol_r (r_fa (o' := 3) rfl fl26_3 rfl) rfl ?_
      refine ol_r (r_ld (id := 2) rfl rfl rfl sc22) rfl ?_
      refine ol_r (r_move rfl) rfl ?_
      refine ol_r (r_sub rfl rfl (by omega)) rfl ?_
      refine ol_r (r_move rfl) rfl ?_
      refine ol_r (r_move rfl) rfl ?_
      have e1 : (A.sn : Int) - 1 = ((A.ss.length - 1 : Nat) : Int) := by omega
      rw [e1]
      refine ol_call rfl rfl cb59 rfl (fun w1 hb1 hs1 hB1 => ?_)
      refine Calls.mono (keep_far w.heap.size _ _ _ A.ss A.start most _ (A.sn : Int).toNat _ (by omega) hok hmost A.ss.length 0 (A.ss.length - 1) (fun x => (false || decide (x = 0)) || decide (x = A.ss.length - 1)) _ hB1 (by omega) (by omega) (by omega) (hA.s.below hb1) (hs1.keyLe [(25, 300)] (keyLe_cons rfl (le_row (congrArg encBo.enc (keep0 (by omega) (by omega)))) keyLe_nil) (by decide))) ?_
      rintro e w2 ⟨rfl, hb2, hs2, hB2, hk2⟩
      refine After.sat rfl hb1 hb2 (hs2.keyLe [(300, 25)] (keyLe_cons rfl (Ent.le_refl _) keyLe_nil) (by decide)) hB2 (hk2.imp fun _ h => h.elim) ?_
      clear hk2 hs2 hb2 hB2 hB1 hs1 hb1 w2 w1
      refine ol_nil (to_k0 (fun _ _ h => h) (hK14 _ _ _ _ _ ?_))
      clear hK14
      refine wp_seq' fun K17 hK17 => ?_
      refine wp_reg ?_
      refine ol_nilrow 9 3 1 ?_
      refine ol_r (r_assign rfl) rfl ?_
      refine ol_nil (to_k0 (fun _ _ h => h) (hK17 _ _ _ _ _ ?_))
      clear hK17
      refine wp_seq' fun K18 hK18 => ?_
      refine wp_seq' fun K19 hK19 => ?_
      refine wp_reg ?_
      refine ol_r (r_move rfl) rfl ?_
      refine ol_r (r_len rfl sl77) rfl ?_
      refine ol_r (r_move rfl) rfl ?_
      refine ol_nil (to_k0 (fun _ _ h => h) (hK19 _ _ _ _ _ ?_))
      clear hK19
      refine wp_block' ?_
      apply wp_loopM (σ := Nat × Nat × Option Addr × Nat) (fun s => s.1 ≤ A.ss.length ∧ (keptList A.ss (most * most) s.1).length = s.2.1) (fun s => [(43, .int .i64 s.1), (9, .slice s.2.2.1 s.2.1 s.2.2.2)]) [(4, _), (5, _), (41, _), (42, _)] (fun s => [(9, .row s.2.2.1 s.2.1 s.2.2.2 (encI.enc (keptList A.ss (most * most) s.1)) 3 1)]) [(25, _)] (fun s => A.ss.length - s.1) ((0, 0, none, 0))
      ·try dsimp only
       exact ⟨Nat.zero_le _, rfl⟩
      ·exact (sub_cons rfl (sub_cons rfl sub_nil))
      ·exact (sub_cons rfl (sub_cons rfl (sub_cons rfl (sub_cons rfl sub_nil))))
      ·exact (subH_row rfl (by dsimp only; rfl) subH_nil)
      ·exact (subH_same rfl subH_nil)
      ·rintro ⟨k, cnt, oa, oc⟩ ⟨hk, hcnt⟩
       dsimp only at hk hcnt ⊢
       have hkl := keptList_len A.ss (most * most) k
       intro K20 hK20
       refine wp_seq' fun K21 hK21 => ?_
       refine wp_reg ?_
       refine ol_r (r_lss rfl rfl) rfl ?_
       refine ol_nil (to_k0 (fun _ _ h => h) (hK21 _ _ _ _ _ ?_))
       clear hK21
       refine wp_seq' fun K22 hK22 => ?_
       refine wp_condD rfl (fun hc44 => ?_) (fun hc44 => ?_)
       ·refine wp_skip' (to_k0 (fun _ _ h => h) (hK22 _ _ _ _ _ ?_))
        clear hK22
        refine wp_seq' fun K23 hK23 => ?_
        refine wp_block' ?_
        refine wp_seq' fun K24 hK24 => ?_
        refine wp_reg ?_
        refine ol_r (r_move rfl) rfl ?_
        refine ol_ixo (id := 25) encBo _ rfl rfl rfl rfl sl77 (by omega) rfl fun x46 hx46 => ?_
        try simp only [Int.toNat_natCast] at hx46
        try simp only [Int.toNat_natCast] at hx46
        refine ol_r (r_ldw rfl (fun w1 hb1 hs1 hB1 => ld_own (id := 25) hs1 rfl rfl ty4 hx46)) rfl ?_
        refine ol_r (r_assign rfl) rfl ?_
        refine ol_r (r_assign rfl) rfl ?_
        refine ol_nil (to_k0 (fun _ _ h => h) (hK24 _ _ _ _ _ ?_))
        clear hK24
        refine wp_seq' fun K25 hK25 => ?_
        refine wp_reg ?_
        have hkb : k < A.ss.length → keptB A.ss (most * most) k = x46 := by
          intro hk
          first
            | (rw [(tabB_get hx46).2]; simp [keptB]; done)
            | (exfalso; omega)
        refine ol_r (r_move rfl) rfl ?_
        refine ol_nil (to_k0 (fun _ _ h => h) (hK25 _ _ _ _ _ ?_))
        clear hK25
        refine wp_cond' rfl (fun hc48 => ?_) (fun hc48 => ?_)
        ·refine wp_reg ?_
         refine ol_r (r_move rfl) rfl ?_
         refine ol_r (r_move rfl) rfl ?_
         refine ol_bs1 51 rfl rfl rw37 rfl rfl rfl fun a51 => ?_
         refine ol_append1 (id := 9) (id2 := 51) rfl rfl rfl rfl rfl rw37 (by omega) rfl fun a52 c52 => ?_
         refine ol_r (r_assign rfl) rfl ?_
         refine ol_nil (to_k0 (fun _ _ h => h) (hK23 _ _ _ _ _ ?_))
         clear hK23
         refine wp_reg ?_
         refine ol_r (r_add rfl rfl (by omega)) rfl ?_
         refine ol_r (r_move rfl) rfl ?_
         refine ol_nil (to_k0 (fun _ _ h => h) (hK20 ((k + 1, _, _, _)) _ _ ?_ ?_ (sub_cons rfl (sub_cons rfl sub_nil)) (sub_cons rfl (sub_cons rfl (sub_cons rfl (sub_cons rfl sub_nil)))) (by exact (subH_row rfl (by first | (dsimp only; first | (rw [keptList_yes ((hkb (by omega)).trans hc48), Enc.enc_append]; rfl) | rw [keptList_no ((hkb (by omega)).trans hc48)]; done) | (first | (rw [keptList_yes ((hkb (by omega)).trans hc48), Enc.enc_append]; rfl) | rw [keptList_no ((hkb (by omega)).trans hc48)]; done) | (dsimp only; done)) subH_nil)) (subH_same rfl subH_nil)))
         ·try dsimp only
          first
            | exact ⟨by omega, by rw [keptList_yes ((hkb (by omega)).trans hc48), List.length_append, hcnt]; rfl⟩
         ·try dsimp only
          omega
        ·refine wp_skip' (to_k0 (fun _ _ h => h) (hK23 _ _ _ _ _ ?_))
         clear hK23
         refine wp_reg ?_
         refine ol_r (r_add rfl rfl (by omega)) rfl ?_
         refine ol_r (r_move rfl) rfl ?_
         refine ol_nil (to_k0 (fun _ _ h => h) (hK20 ((k + 1, _, _, _)) _ _ ?_ ?_ (sub_cons rfl (sub_cons rfl sub_nil)) (sub_cons rfl (sub_cons rfl (sub_cons rfl (sub_cons rfl sub_nil)))) (by exact (subH_row rfl (by dsimp only; first | (rw [keptList_yes ((hkb (by omega)).trans hc48), Enc.enc_append]; rfl) | rw [keptList_no ((hkb (by omega)).trans hc48)]) subH_nil)) (subH_same rfl subH_nil)))
         ·try dsimp only
          first
            | exact ⟨by omega, by rw [keptList_no ((hkb (by omega)).trans hc48)]; exact hcnt⟩
         ·try dsimp only
          omega
       ·refine wp_exit' (to_k0 (fun _ _ h => h) (hK18 _ _ _ _ _ ?_))
        clear hK18
        refine wp_seq' fun K26 hK26 => ?_
        refine wp_reg ?_
        refine ol_r (r_move rfl) rfl ?_
        refine ol_r (r_assign rfl) rfl ?_
        refine ol_r (r_assign rfl) rfl ?_
        refine ol_nil (to_k0 (fun _ _ h => h) (hK26 _ _ _ _ _ ?_))
        clear hK26
        refine hQ.ret (rvs2 (rv_t rfl) (rv_t rfl)) (fun _ _ h => h) fun w hb hs hB hkd => ?_
        have h := simpleR_0 (a := A.d) (most := most) (fewErr_ok h0 hmost (by show ¬(5000 : Int) < (A.ss.length : Int); omega))
        have hkk : k = A.ss.length := by omega
        subst hkk
        rw [h]
        exact ⟨_, _, _, rfl, hb, by show World.ownsRow _ _ _ _ _ _ (encI.enc (simpleL A.ss (most * most))); rw [← keptList_all]; exact hs.ok 9 _ rfl⟩
     ·refine wp_skip' (to_k0 (fun _ _ h => h) (hK14 _ _ _ _ _ ?_))
      clear hK14
      refine wp_seq' fun K27 hK27 => ?_
      refine wp_reg ?_
      refine ol_nilrow 9 3 1 ?_
      refine ol_r (r_assign rfl) rfl ?_
      refine ol_nil (to_k0 (fun _ _ h => h) (hK27 _ _ _ _ _ ?_))
      clear hK27
      refine wp_seq' fun K28 hK28 => ?_
      refine wp_seq' fun K29 hK29 => ?_
      refine wp_reg ?_
      refine ol_r (r_move rfl) rfl ?_
      refine ol_r (r_len rfl sl77) rfl ?_
      refine ol_r (r_move rfl) rfl ?_
      refine ol_nil (to_k0 (fun _ _ h => h) (hK29 _ _ _ _ _ ?_))
      clear hK29
      refine wp_block' ?_
      apply wp_loopM (σ := Nat × Nat × Option Addr × Nat) (fun s => s.1 ≤ A.ss.length ∧ (keptList A.ss (most * most) s.1).length = s.2.1) (fun s => [(43, .int .i64 s.1), (9, .slice s.2.2.1 s.2.1 s.2.2.2)]) [(4, _), (5, _), (41, _), (42, _)] (fun s => [(9, .row s.2.2.1 s.2.1 s.2.2.2 (encI.enc (keptList A.ss (most * most) s.1)) 3 1)]) [(2, _), (25, _)] (fun s => A.ss.length - s.1) ((0, 0, none, 0))
      ·try dsimp only
       exact ⟨Nat.zero_le _, rfl⟩
      ·exact (sub_cons rfl (sub_cons rfl sub_nil))
      ·exact (sub_cons rfl (sub_cons rfl (sub_cons rfl (sub_cons rfl sub_nil))))
      ·exact (subH_row rfl (by dsimp only; rfl) subH_nil)
      ·exact (subH_same rfl (subH_same rfl subH_nil))
      ·rintro ⟨k, cnt, oa, oc⟩ ⟨hk, hcnt⟩
       dsimp only at hk hcnt ⊢
       have hkl := keptList_len A.ss (most * most) k
       intro K30 hK30
       refine wp_seq' fun K31 hK31 => ?_
       refine wp_reg ?_
       refine ol_r (r_lss rfl rfl) rfl ?_
       refine ol_nil (to_k0 (fun _ _ h => h) (hK31 _ _ _ _ _ ?_))
       clear hK31
       refine wp_seq' fun K32 hK32 => ?_
       refine wp_condD rfl (fun hc44 => ?_) (fun hc44 => ?_)
       ·refine wp_skip' (to_k0 (fun _ _ h => h) (hK32 _ _ _ _ _ ?_))
        clear hK32
        refine wp_seq' fun K33 hK33 => ?_
        refine wp_block' ?_
        refine wp_seq' fun K34 hK34 => ?_
        refine wp_reg ?_
        refine ol_r (r_move rfl) rfl ?_
        refine ol_ixo (id := 25) encBo _ rfl rfl rfl rfl sl77 (by omega) rfl fun x46 hx46 => ?_
        try simp only [Int.toNat_natCast] at hx46
        try simp only [Int.toNat_natCast] at hx46
        refine ol_r (r_ldw rfl (fun w1 hb1 hs1 hB1 => ld_own (id := 25) hs1 rfl rfl ty4 hx46)) rfl ?_
        refine ol_r (r_assign rfl) rfl ?_
        refine ol_r (r_assign rfl) rfl ?_
        refine ol_nil (to_k0 (fun _ _ h => h) (hK34 _ _ _ _ _ ?_))
        clear hK34
        refine wp_seq' fun K35 hK35 => ?_
        refine wp_reg ?_
        have hkb : k < A.ss.length → keptB A.ss (most * most) k = x46 := by
          intro hk
          first
            | (rw [(tabB_get hx46).2]; simp [keptB]; done)
            | (exfalso; omega)
        refine ol_r (r_move rfl) rfl ?_
        refine ol_nil (to_k0 (fun _ _ h => h) (hK35 _ _ _ _ _ ?_))
        clear hK35
        refine wp_cond' rfl (fun hc48 => ?_) (fun hc48 => ?_)
        ·refine wp_reg ?_
         refine ol_r (r_move rfl) rfl ?_
         refine ol_r (r_move rfl) rfl ?_
         refine ol_bs1 51 rfl rfl rw37 rfl rfl rfl fun a51 => ?_
         refine ol_append1 (id := 9) (id2 := 51) rfl rfl rfl rfl rfl rw37 (by omega) rfl fun a52 c52 => ?_
         refine ol_r (r_assign rfl) rfl ?_
         refine ol_nil (to_k0 (fun _ _ h => h) (hK33 _ _ _ _ _ ?_))
         clear hK33
         refine wp_reg ?_
         refine ol_r (r_add rfl rfl (by omega)) rfl ?_
         refine ol_r (r_move rfl) rfl ?_
         refine ol_nil (to_k0 (fun _ _ h => h) (hK30 ((k + 1, _, _, _)) _ _ ?_ ?_ (sub_cons rfl (sub_cons rfl sub_nil)) (sub_cons rfl (sub_cons rfl (sub_cons rfl (sub_cons rfl sub_nil)))) (by exact (subH_row rfl (by first | (dsimp only; first | (rw [keptList_yes ((hkb (by omega)).trans hc48), Enc.enc_append]; rfl) | rw [keptList_no ((hkb (by omega)).trans hc48)]; done) | (first | (rw [keptList_yes ((hkb (by omega)).trans hc48), Enc.enc_append]; rfl) | rw [keptList_no ((hkb (by omega)).trans hc48)]; done) | (dsimp only; done)) subH_nil)) (subH_same rfl (subH_same rfl subH_nil))))
         ·try dsimp only
          first
            | exact ⟨by omega, by rw [keptList_yes ((hkb (by omega)).trans hc48), List.length_append, hcnt]; rfl⟩
         ·try dsimp only
          omega
        ·refine wp_skip' (to_k0 (fun _ _ h => h) (hK33 _ _ _ _ _ ?_))
         clear hK33
         refine wp_reg ?_
         refine ol_r (r_add rfl rfl (by omega)) rfl ?_
         refine ol_r (r_move rfl) rfl ?_
         refine ol_nil (to_k0 (fun _ _ h => h) (hK30 ((k + 1, _, _, _)) _ _ ?_ ?_ (sub_cons rfl (sub_cons rfl sub_nil)) (sub_cons rfl (sub_cons rfl (sub_cons rfl (sub_cons rfl sub_nil)))) (by exact (subH_row rfl (by dsimp only; first | (rw [keptList_yes ((hkb (by omega)).trans hc48), Enc.enc_append]; rfl) | rw [keptList_no ((hkb (by omega)).trans hc48)]) subH_nil)) (subH_same rfl (subH_same rfl subH_nil))))
         ·try dsimp only
          first
            | exact ⟨by omega, by rw [keptList_no ((hkb (by omega)).trans hc48)]; exact hcnt⟩
         ·try dsimp only
          omega
       ·refine wp_exit' (to_k0 (fun _ _ h => h) (hK28 _ _ _ _ _ ?_))
        clear hK28
        refine wp_seq' fun K36 hK36 => ?_
        refine wp_reg ?_
        refine ol_r (r_move rfl) rfl ?_
        refine ol_r (r_assign rfl) rfl ?_
        refine ol_r (r_assign rfl) rfl ?_
        refine ol_nil (to_k0 (fun _ _ h => h) (hK36 _ _ _ _ _ ?_))
        clear hK36
        refine hQ.ret (rvs2 (rv_t rfl) (rv_t rfl)) (fun _ _ h => h) fun w hb hs hB hkd => ?_
        have h := simpleR_0 (a := A.d) (most := most) (fewErr_ok h0 hmost (by show ¬(5000 : Int) < (A.ss.length : Int); omega))
        have hkk : k = A.ss.length := by omega
        subst hkk
        rw [h]
        exact ⟨_, _, _, rfl, hb, by show World.ownsRow _ _ _ _ _ _ (encI.enc (simpleL A.ss (most * most))); rw [← keptList_all]; exact hs.ok 9 _ rfl⟩
end Go.Proofs.Ytogcclagmobkiaa
