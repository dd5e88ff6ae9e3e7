/-
  The names of both, as the reference takes them together.
-/
import Derived.Test.YtogcclagmobkiaaJoinM
import Derived.Test.YtogcclagmobkiaaOrA
import Derived.Test.YtogcclagmobkiaaCut
namespace Go.Proofs.Ytogcclagmobkiaa
open Go Go.RowKit Hx
set_option linter.unusedVariables false
set_option linter.unusedSimpArgs false
set_option maxRecDepth 8000
theorem rd_tailE {α : Type} {E : Enc α} {B : Nat} {w : World} {a : Option Addr} {n c : Nat} {l : List α} (h : Rd E B w a ((n : Int).toNat - Int.toNat 1) c ((l.drop (Int.toNat 1)).take ((n : Int).toNat - Int.toNat 1))) (hn : l.length = n) : Rd E B w a ((n : Int).toNat - Int.toNat 1) c (l.drop 1) := by
  have e : (l.drop (Int.toNat 1)).take ((n : Int).toNat - Int.toNat 1) = l.drop 1 := List.take_of_length_le (by rw [List.length_drop]; show l.length - 1 ≤ (n : Int).toNat - 1; omega)
  rwa [e] at h
theorem encStr_snoc (l : List ByteArray) (x : ByteArray) : encStr.enc (l ++ [x]) = encStr.enc l ++ encStr.cells x := by rw [Enc.enc_append]; simp [Enc.enc]
theorem tag_left {x : ByteArray} {la lb : List ByteArray} (hx : la[0]? = some x) (h : lb = [] ∨ ∃ y, lb[0]? = some y ∧ sLt x y = true) : tagR la lb = [x] ++ tagR (la.drop 1) lb := by
  cases la with
  | nil => simp at hx
  | cons u la =>
    cases hx
    rcases h with rfl | ⟨y, hy, h⟩
    · rw [tagR_nilr]; show _ = [x] ++ tagR la []; rw [tagR_nilr]; rfl
    · cases lb with
      | nil => simp at hy
      | cons v lb => cases hy; rw [tagR_a h]; rfl
theorem tag_right {y : ByteArray} {la lb : List ByteArray} (hy : lb[0]? = some y) (h : la = [] ∨ ∃ x, la[0]? = some x ∧ ¬sLt x y = true ∧ ¬sEq x y = true) : tagR la lb = [y] ++ tagR la (lb.drop 1) := by
  cases lb with
  | nil => simp at hy
  | cons v lb =>
    cases hy
    rcases h with rfl | ⟨x, hx, h, h2⟩
    · rw [tagR_nil, tagR_nil]; rfl
    · cases la with
      | nil => simp at hx
      | cons u la => cases hx; rw [tagR_b h h2]; rfl
theorem tag_both {x y : ByteArray} {la lb : List ByteArray} (hx : la[0]? = some x) (hy : lb[0]? = some y) (h : ¬sLt x y = true) (h2 : sEq x y = true) : tagR la lb = [y] ++ tagR (la.drop 1) (lb.drop 1) := by
  cases la with
  | nil => simp at hx
  | cons u la =>
    cases lb with
    | nil => simp at hy
    | cons v lb => cases hx; cases hy; rw [tagR_e h h2]; rfl
theorem ref3_Tags (a b : Option Addr) (n m c d : Nat) (xs ys : List ByteArray) (w : World) (hl : Rd encStr w.heap.size w a n c xs) (hm : Rd encStr w.heap.size w b m d ys) (hn : n ≤ 1000000) (hn2 : m ≤ 1000000) :
    Calls Try.prog 70 #[.slice a n c, .slice b m d] w fun e w' => ∃ o k kc, e = .returned (.slice o k kc) ∧ Fresh encStr 9 w w' o k kc (tagR xs ys) := by
  obtain rfl := hl.len
  obtain rfl := hm.len
  refine enterQ (N := 62) (C := fun _ => True) (H := []) (B := w.heap.size) (args := [_, _]) Try.func70 rfl rfl rfl (Nat.le_refl _) (Sat.nil _ _) fun Q hQ => ?_
  refine wp_seq' fun K1 hK1 => ?_
  refine wp_reg ?_
  refine ol_r (r_assign rfl) rfl ?_
  refine ol_nil (to_k0 (fun _ _ h => h) (hK1 _ _ _ _ _ ?_))
  clear hK1
  refine wp_seq' fun K2 hK2 => ?_
  refine wp_reg ?_
  first
    | (change _ at hx33
       obtain ⟨la', ela⟩ : ∃ l, l = la.drop 1 := ⟨_, rfl⟩
       obtain ⟨lb', elb⟩ : ∃ l, l = lb := ⟨_, rfl⟩
       obtain ⟨out', eo⟩ : ∃ l, l = out ++ [x33] := ⟨_, rfl⟩)
    | (change _ at hl52
       obtain ⟨la', ela⟩ : ∃ l, l = la.drop 1 := ⟨_, rfl⟩
       obtain ⟨lb', elb⟩ : ∃ l, l = lb.drop 1 := ⟨_, rfl⟩
       obtain ⟨out', eo⟩ : ∃ l, l = out ++ [x55] := ⟨_, rfl⟩)
    | (change _ at hx55
       obtain ⟨la', ela⟩ : ∃ l, l = la := ⟨_, rfl⟩
       obtain ⟨lb', elb⟩ : ∃ l, l = lb.drop 1 := ⟨_, rfl⟩
       obtain ⟨out', eo⟩ : ∃ l, l = out ++ [x55] := ⟨_, rfl⟩)
    | skip
  refine ol_nilrow 5 9 1 ?_
  refine ol_r (r_assign rfl) rfl ?_
  refine ol_nil (to_k0 (fun _ _ h => h) (hK2 _ _ _ _ _ ?_))
  clear hK2
  refine wp_seq' fun K3 hK3 => ?_
  refine wp_block' ?_
  apply wp_loopM (σ := (Option Addr × Nat × Nat × List ByteArray) × (Option Addr × Nat × Nat × List ByteArray) × (Option Addr × Nat × Nat × List ByteArray)) (fun s => Rd encStr w.heap.size w s.1.1 s.1.2.1 s.1.2.2.1 s.1.2.2.2 ∧ Rd encStr w.heap.size w s.2.1.1 s.2.1.2.1 s.2.1.2.2.1 s.2.1.2.2.2 ∧ tagR xs ys = s.2.2.2.2.2 ++ tagR s.1.2.2.2 s.2.1.2.2.2 ∧ s.2.2.2.2.2.length = s.2.2.2.1 ∧ s.1.2.1 + s.2.1.2.1 + s.2.2.2.1 ≤ 2000000) (fun s => [(0, .slice s.1.1 s.1.2.1 s.1.2.2.1), (1, .slice s.2.1.1 s.2.1.2.1 s.2.1.2.2.1), (5, .slice s.2.2.1 s.2.2.2.1 s.2.2.2.2.1)]) [(4, _)] (fun s => [(5, .row s.2.2.1 s.2.2.2.1 s.2.2.2.2.1 (encStr.enc s.2.2.2.2.2) 9 1)]) [] (fun s => s.1.2.1 + s.2.1.2.1) (((a, xs.length, c, xs), (b, ys.length, d, ys), none, 0, 0, []))
  ·try dsimp only
   exact ⟨hl, hm, rfl, rfl, by omega⟩
  ·exact (sub_cons rfl (sub_cons rfl (sub_cons rfl sub_nil)))
  ·exact (sub_cons rfl sub_nil)
  ·exact (subH_row rfl (by first | (dsimp only; rfl; done) | (rfl; done) | (dsimp only; done)) subH_nil)
  ·exact subH_nil
  ·rintro ⟨⟨pa, na, ca, la⟩, ⟨pb, nb, cb, lb⟩, oa, ko, oc, out⟩ ⟨hla, hlb, hP, hko, hsum⟩
   dsimp only at hla hlb hP hko hsum ⊢
   have hna := hla.len
   have hnb := hlb.len
   intro K4 hK4
   refine wp_seq' fun K5 hK5 => ?_
   refine wp_seq' fun K6 hK6 => ?_
   refine wp_reg ?_
   refine ol_r (r_move rfl) rfl ?_
   refine ol_r (r_len rfl sl24) rfl ?_
   refine ol_r (r_gtr rfl rfl) rfl ?_
   refine ol_r (r_move rfl) rfl ?_
   refine ol_split (d := 9) rfl (fun hs9 => ?_) (fun hs9 => ?_)
   ·have phs9 := hs9; try simp only [decide_eq_true_eq, decide_eq_false_iff_not, Bool.not_eq_true', Bool.not_eq_false', Bool.not_true, Bool.not_false] at phs9
    refine ol_s rfl rfl hs9 rfl ?_
    refine ol_s rfl rfl hs9 rfl ?_
    refine ol_s rfl rfl hs9 rfl ?_
    refine ol_r (r_pickT rfl hs9 rfl) rfl ?_
    refine ol_nil (to_k0 (fun _ _ h => h) (hK6 _ _ _ _ _ ?_))
    clear hK6
    refine wp_condT rfl ?_
    refine wp_skip' (to_k0 (fun _ _ h => h) (hK5 _ _ _ _ _ ?_))
    clear hK5
    refine wp_block' ?_
    refine wp_seq' fun K7 hK7 => ?_
    refine wp_regq (by kernel_rfl) (by kernel_rfl) ?_
    refine ql_r (r_move rfl) rfl ?_
    refine ql_r (r_len rfl sl24) rfl ?_
    refine ql_r (r_eql rfl rfl) rfl ?_
    refine ql_r (r_move rfl) rfl ?_
    refine ql_split (d := 17) rfl (fun hs17 => ?_) (fun hs17 => ?_)
    ·have phs17 := hs17; try simp only [decide_eq_true_eq, decide_eq_false_iff_not, Bool.not_eq_true', Bool.not_eq_false', Bool.not_true, Bool.not_false] at phs17
     refine ql_s rfl rfl hs17 rfl ?_
     refine ql_s rfl rfl hs17 rfl ?_
     refine ql_s rfl rfl hs17 rfl ?_
     refine ql_s rfl rfl hs17 rfl ?_
     refine ql_u rfl rfl rfl ?_
     refine ql_u rfl rfl rfl ?_
     refine ql_u rfl rfl rfl ?_
     refine ql_u rfl rfl rfl ?_
     refine ql_u rfl rfl rfl ?_
     refine ql_u rfl rfl rfl ?_
     refine ql_u rfl rfl rfl ?_
     refine ql_s rfl rfl hs17 rfl ?_
     refine ql_r (r_pickT rfl hs17 rfl) rfl ?_
     refine ql_nil (to_k0 (fun _ _ h => h) (hK7 _ _ _ _ _ ?_))
     clear hK7
     refine wp_condT rfl ?_
     refine wp_seq' fun K8 hK8 => ?_
     refine wp_reg ?_
     refine ol_r (r_move rfl) rfl ?_
     refine ol_r (r_move rfl) rfl ?_
     refine ol_ixr hla rfl rfl sl24 (by omega) rfl fun x33 hx33 => ?_
     try simp only [Int.toNat_natCast] at hx33
     refine ol_r (r_ldw rfl (fun w1 hb1 hs1 hB1 => Rd.loads hla ty9 hx33 hb1)) rfl ?_
     refine ol_bs1 35 rfl rfl rw24 rfl rfl rfl fun a35 => ?_
     refine ol_append1 (id := 5) (id2 := 35) rfl rfl rfl rfl rfl rw24 (by omega) rfl fun a36 c36 => ?_
     first
       | (change _ at hx33
          obtain ⟨la', ela⟩ : ∃ l, l = la.drop 1 := ⟨_, rfl⟩
          obtain ⟨lb', elb⟩ : ∃ l, l = lb := ⟨_, rfl⟩
          obtain ⟨out', eo⟩ : ∃ l, l = out ++ [x33] := ⟨_, rfl⟩)
       | (change _ at hl52
          obtain ⟨la', ela⟩ : ∃ l, l = la.drop 1 := ⟨_, rfl⟩
          obtain ⟨lb', elb⟩ : ∃ l, l = lb.drop 1 := ⟨_, rfl⟩
          obtain ⟨out', eo⟩ : ∃ l, l = out ++ [x55] := ⟨_, rfl⟩)
       | (change _ at hx55
          obtain ⟨la', ela⟩ : ∃ l, l = la := ⟨_, rfl⟩
          obtain ⟨lb', elb⟩ : ∃ l, l = lb.drop 1 := ⟨_, rfl⟩
          obtain ⟨out', eo⟩ : ∃ l, l = out ++ [x55] := ⟨_, rfl⟩)
       | skip
     refine ol_r (r_assign rfl) rfl ?_
     refine ol_nil (to_k0 (fun _ _ h => h) (hK8 _ _ _ _ _ ?_))
     clear hK8
     refine wp_reg ?_
     refine ol_r (r_move rfl) rfl ?_
     refine ol_slr hla rfl rfl rfl sl24 (by simp only [Option.getD_some, Option.getD_none]; omega) rfl fun a38 c38 hl38 => ?_
     try simp only [Option.getD_some, Option.getD_none] at hl38 ⊢
     refine ol_r (r_assign rfl) rfl ?_
     refine ol_nil (to_k0 (fun _ _ h => h) (hK4 (((_, _, _, la'), (_, _, _, lb'), _, _, _, out')) _ _ ?_ ?_ (sub_cons rfl (sub_cons rfl (sub_cons rfl sub_nil))) (sub_cons rfl sub_nil) (by exact (subH_row rfl (by first | (dsimp only; rw [eo, encStr_snoc]; rfl; done) | (rw [eo, encStr_snoc]; rfl; done) | (dsimp only; done)) subH_nil)) subH_nil))
     ·try dsimp only
      first
        | (exfalso; omega)
        | (change _ at hx33
           rw [ela, elb, eo]
           refine ⟨rd_tailE hl38 hna, hlb, ?_, by simp [hko], by omega⟩
           have hq : lb = [] ∨ ∃ y, lb[0]? = some y ∧ sLt x33 y = true := by
             first
               | exact .inl (List.eq_nil_of_length_eq_zero (by omega))
               | (obtain rfl := Option.some.inj (hx23.symm.trans hx33)
                  exact .inr ⟨_, hx26, hc30⟩)
           rw [hP, tag_left hx33 hq, List.append_assoc])
        | (change _ at hl52
           rw [ela, elb, eo]
           refine ⟨rd_tailE hl52 hna, rd_tailE hl60 hnb, ?_, by simp [hko], by omega⟩
           obtain rfl := Option.some.inj (hx23.symm.trans hx44)
           obtain rfl := Option.some.inj (hx26.symm.trans hx47)
           obtain rfl := Option.some.inj (hx26.symm.trans hx55)
           rw [hP, tag_both hx44 hx47 (by rw [hc30]; simp) hc50, List.append_assoc])
        | (change _ at hx55
           rw [ela, elb, eo]
           refine ⟨hla, rd_tailE hl60 hnb, ?_, by simp [hko], by omega⟩
           have hq : la = [] ∨ ∃ x, la[0]? = some x ∧ ¬sLt x x55 = true ∧ ¬sEq x x55 = true := by
             first
               | exact .inl (List.eq_nil_of_length_eq_zero (by omega))
               | (obtain rfl := Option.some.inj (hx23.symm.trans hx44)
                  obtain rfl := Option.some.inj (hx26.symm.trans hx47)
                  obtain rfl := Option.some.inj (hx26.symm.trans hx55)
                  exact .inr ⟨_, hx44, by rw [hc30]; simp, by rw [hc50]; simp⟩)
           rw [hP, tag_right hx55 hq, List.append_assoc])
     ·try dsimp only
      omega
    ·have phs17 := hs17; try simp only [decide_eq_true_eq, decide_eq_false_iff_not, Bool.not_eq_true', Bool.not_eq_false', Bool.not_true, Bool.not_false] at phs17
     refine ql_g rfl rfl hs17 ?_
     refine ql_r (r_move rfl) rfl ?_
     refine ql_g rfl rfl hs17 ?_
     refine ql_r (r_len rfl sl24) rfl ?_
     refine ql_g rfl rfl hs17 ?_
     refine ql_r (r_gtr rfl rfl) rfl ?_
     refine ql_g rfl rfl hs17 ?_
     refine ql_r (r_move rfl) rfl ?_
     refine ql_split (d := 21) rfl (fun hs21 => ?_) (fun hs21 => ?_)
     ·have phs21 := hs21; try simp only [decide_eq_true_eq, decide_eq_false_iff_not, Bool.not_eq_true', Bool.not_eq_false', Bool.not_true, Bool.not_false] at phs21
      refine ql_g rfl rfl hs21 ?_
      refine ql_r (r_move rfl) rfl ?_
      refine ql_g rfl rfl hs21 ?_
      refine ql_ixr hla rfl rfl sl24 (by omega) rfl fun x23 hx23 => ?_
      try simp only [Int.toNat_natCast] at hx23
      refine ql_g rfl rfl hs21 ?_
      refine ql_r (r_ldw rfl (fun w1 hb1 hs1 hB1 => Rd.loads hla ty9 hx23 hb1)) rfl ?_
      refine ql_g rfl rfl hs21 ?_
      refine ql_r (r_move rfl) rfl ?_
      refine ql_g rfl rfl hs21 ?_
      refine ql_ixr hlb rfl rfl sl24 (by omega) rfl fun x26 hx26 => ?_
      try simp only [Int.toNat_natCast] at hx26
      refine ql_g rfl rfl hs21 ?_
      refine ql_r (r_ldw rfl (fun w1 hb1 hs1 hB1 => Rd.loads hlb ty9 hx26 hb1)) rfl ?_
      refine ql_g rfl rfl hs21 ?_
      refine ql_r (r_slss rfl rfl) rfl ?_
      refine ql_g rfl rfl hs17 ?_
      refine ql_r (r_pickT rfl hs21 rfl) rfl ?_
      refine ql_r (r_pickF rfl hs17 rfl) rfl ?_
      refine ql_nil (to_k0 (fun _ _ h => h) (hK7 _ _ _ _ _ ?_))
      clear hK7
      first | refine wp_condD rfl (fun hc30 => ?_) (fun hc30 => ?_) | refine wp_condN rfl (fun hc30 => ?_) (fun hc30 => ?_) | refine wp_condNB rfl (fun hc30 => ?_) (fun hc30 => ?_) | refine wp_cond' rfl (fun hc30 => ?_) (fun hc30 => ?_)
      ·refine wp_seq' fun K9 hK9 => ?_
       refine wp_reg ?_
       refine ol_r (r_move rfl) rfl ?_
       refine ol_r (r_move rfl) rfl ?_
       refine ol_ixr hla rfl rfl sl24 (by omega) rfl fun x33 hx33 => ?_
       try simp only [Int.toNat_natCast] at hx33
       refine ol_r (r_ldw rfl (fun w1 hb1 hs1 hB1 => Rd.loads hla ty9 hx33 hb1)) rfl ?_
       refine ol_bs1 35 rfl rfl rw24 rfl rfl rfl fun a35 => ?_
       refine ol_append1 (id := 5) (id2 := 35) rfl rfl rfl rfl rfl rw24 (by omega) rfl fun a36 c36 => ?_
       first
         | (change _ at hx33
            obtain ⟨la', ela⟩ : ∃ l, l = la.drop 1 := ⟨_, rfl⟩
            obtain ⟨lb', elb⟩ : ∃ l, l = lb := ⟨_, rfl⟩
            obtain ⟨out', eo⟩ : ∃ l, l = out ++ [x33] := ⟨_, rfl⟩)
         | (change _ at hl52
            obtain ⟨la', ela⟩ : ∃ l, l = la.drop 1 := ⟨_, rfl⟩
            obtain ⟨lb', elb⟩ : ∃ l, l = lb.drop 1 := ⟨_, rfl⟩
            obtain ⟨out', eo⟩ : ∃ l, l = out ++ [x55] := ⟨_, rfl⟩)
         | (change _ at hx55
            obtain ⟨la', ela⟩ : ∃ l, l = la := ⟨_, rfl⟩
            obtain ⟨lb', elb⟩ : ∃ l, l = lb.drop 1 := ⟨_, rfl⟩
            obtain ⟨out', eo⟩ : ∃ l, l = out ++ [x55] := ⟨_, rfl⟩)
         | skip
       refine ol_r (r_assign rfl) rfl ?_
       refine ol_nil (to_k0 (fun _ _ h => h) (hK9 _ _ _ _ _ ?_))
       clear hK9
       refine wp_reg ?_
       refine ol_r (r_move rfl) rfl ?_
       refine ol_slr hla rfl rfl rfl sl24 (by simp only [Option.getD_some, Option.getD_none]; omega) rfl fun a38 c38 hl38 => ?_
       try simp only [Option.getD_some, Option.getD_none] at hl38 ⊢
       refine ol_r (r_assign rfl) rfl ?_
       refine ol_nil (to_k0 (fun _ _ h => h) (hK4 (((_, _, _, la'), (_, _, _, lb'), _, _, _, out')) _ _ ?_ ?_ (sub_cons rfl (sub_cons rfl (sub_cons rfl sub_nil))) (sub_cons rfl sub_nil) (by exact (subH_row rfl (by first | (dsimp only; rw [eo, encStr_snoc]; rfl; done) | (rw [eo, encStr_snoc]; rfl; done) | (dsimp only; done)) subH_nil)) subH_nil))
       ·try dsimp only
        first
          | (exfalso; omega)
          | (change _ at hx33
             rw [ela, elb, eo]
             refine ⟨rd_tailE hl38 hna, hlb, ?_, by simp [hko], by omega⟩
             have hq : lb = [] ∨ ∃ y, lb[0]? = some y ∧ sLt x33 y = true := by
               first
                 | exact .inl (List.eq_nil_of_length_eq_zero (by omega))
                 | (obtain rfl := Option.some.inj (hx23.symm.trans hx33)
                    exact .inr ⟨_, hx26, hc30⟩)
             rw [hP, tag_left hx33 hq, List.append_assoc])
          | (change _ at hl52
             rw [ela, elb, eo]
             refine ⟨rd_tailE hl52 hna, rd_tailE hl60 hnb, ?_, by simp [hko], by omega⟩
             obtain rfl := Option.some.inj (hx23.symm.trans hx44)
             obtain rfl := Option.some.inj (hx26.symm.trans hx47)
             obtain rfl := Option.some.inj (hx26.symm.trans hx55)
             rw [hP, tag_both hx44 hx47 (by rw [hc30]; simp) hc50, List.append_assoc])
          | (change _ at hx55
             rw [ela, elb, eo]
             refine ⟨hla, rd_tailE hl60 hnb, ?_, by simp [hko], by omega⟩
             have hq : la = [] ∨ ∃ x, la[0]? = some x ∧ ¬sLt x x55 = true ∧ ¬sEq x x55 = true := by
               first
                 | exact .inl (List.eq_nil_of_length_eq_zero (by omega))
                 | (obtain rfl := Option.some.inj (hx23.symm.trans hx44)
                    obtain rfl := Option.some.inj (hx26.symm.trans hx47)
                    obtain rfl := Option.some.inj (hx26.symm.trans hx55)
                    exact .inr ⟨_, hx44, by rw [hc30]; simp, by rw [hc50]; simp⟩)
             rw [hP, tag_right hx55 hq, List.append_assoc])
       ·try dsimp only
        omega
      ·refine wp_seq' fun K10 hK10 => ?_
       refine wp_seq' fun K11 hK11 => ?_
       refine wp_regq (by kernel_rfl) (by kernel_rfl) ?_
       refine ql_r (r_move rfl) rfl ?_
       refine ql_r (r_len rfl sl24) rfl ?_
       refine ql_r (r_gtr rfl rfl) rfl ?_
       refine ql_r (r_move rfl) rfl ?_
       refine ql_split (d := 42) rfl (fun hs42 => ?_) (fun hs42 => ?_)
       ·have phs42 := hs42; try simp only [decide_eq_true_eq, decide_eq_false_iff_not, Bool.not_eq_true', Bool.not_eq_false', Bool.not_true, Bool.not_false] at phs42
        refine ql_g rfl rfl hs42 ?_
        refine ql_r (r_move rfl) rfl ?_
        refine ql_g rfl rfl hs42 ?_
        refine ql_ixr hla rfl rfl sl24 (by omega) rfl fun x44 hx44 => ?_
        try simp only [Int.toNat_natCast] at hx44
        refine ql_g rfl rfl hs42 ?_
        refine ql_r (r_ldw rfl (fun w1 hb1 hs1 hB1 => Rd.loads hla ty9 hx44 hb1)) rfl ?_
        refine ql_g rfl rfl hs42 ?_
        refine ql_r (r_move rfl) rfl ?_
        refine ql_g rfl rfl hs42 ?_
        refine ql_ixr hlb rfl rfl sl24 (by omega) rfl fun x47 hx47 => ?_
        try simp only [Int.toNat_natCast] at hx47
        refine ql_g rfl rfl hs42 ?_
        refine ql_r (r_ldw rfl (fun w1 hb1 hs1 hB1 => Rd.loads hlb ty9 hx47 hb1)) rfl ?_
        refine ql_g rfl rfl hs42 ?_
        refine ql_r (r_seql rfl rfl) rfl ?_
        refine ql_r (r_pickT rfl hs42 rfl) rfl ?_
        refine ql_nil (to_k0 (fun _ _ h => h) (hK11 _ _ _ _ _ ?_))
        clear hK11
        first | refine wp_condD rfl (fun hc50 => ?_) (fun hc50 => ?_) | refine wp_condN rfl (fun hc50 => ?_) (fun hc50 => ?_) | refine wp_condNB rfl (fun hc50 => ?_) (fun hc50 => ?_) | refine wp_cond' rfl (fun hc50 => ?_) (fun hc50 => ?_)
        ·refine wp_reg ?_
         refine ol_r (r_move rfl) rfl ?_
         refine ol_slr hla rfl rfl rfl sl24 (by simp only [Option.getD_some, Option.getD_none]; omega) rfl fun a52 c52 hl52 => ?_
         try simp only [Option.getD_some, Option.getD_none] at hl52 ⊢
         refine ol_r (r_assign rfl) rfl ?_
         refine ol_nil (to_k0 (fun _ _ h => h) (hK10 _ _ _ _ _ ?_))
         clear hK10
         refine wp_seq' fun K12 hK12 => ?_
         refine wp_reg ?_
         refine ol_r (r_move rfl) rfl ?_
         refine ol_r (r_move rfl) rfl ?_
         refine ol_ixr hlb rfl rfl sl24 (by omega) rfl fun x55 hx55 => ?_
         try simp only [Int.toNat_natCast] at hx55
         refine ol_r (r_ldw rfl (fun w1 hb1 hs1 hB1 => Rd.loads hlb ty9 hx55 hb1)) rfl ?_
         refine ol_bs1 57 rfl rfl rw24 rfl rfl rfl fun a57 => ?_
         refine ol_append1 (id := 5) (id2 := 57) rfl rfl rfl rfl rfl rw24 (by omega) rfl fun a58 c58 => ?_
         first
           | (change _ at hx33
              obtain ⟨la', ela⟩ : ∃ l, l = la.drop 1 := ⟨_, rfl⟩
              obtain ⟨lb', elb⟩ : ∃ l, l = lb := ⟨_, rfl⟩
              obtain ⟨out', eo⟩ : ∃ l, l = out ++ [x33] := ⟨_, rfl⟩)
           | (change _ at hl52
              obtain ⟨la', ela⟩ : ∃ l, l = la.drop 1 := ⟨_, rfl⟩
              obtain ⟨lb', elb⟩ : ∃ l, l = lb.drop 1 := ⟨_, rfl⟩
              obtain ⟨out', eo⟩ : ∃ l, l = out ++ [x55] := ⟨_, rfl⟩)
           | (change _ at hx55
              obtain ⟨la', ela⟩ : ∃ l, l = la := ⟨_, rfl⟩
              obtain ⟨lb', elb⟩ : ∃ l, l = lb.drop 1 := ⟨_, rfl⟩
              obtain ⟨out', eo⟩ : ∃ l, l = out ++ [x55] := ⟨_, rfl⟩)
           | skip
         refine ol_r (r_assign rfl) rfl ?_
         refine ol_nil (to_k0 (fun _ _ h => h) (hK12 _ _ _ _ _ ?_))
         clear hK12
         refine wp_reg ?_
         refine ol_r (r_move rfl) rfl ?_
         refine ol_slr hlb rfl rfl rfl sl24 (by simp only [Option.getD_some, Option.getD_none]; omega) rfl fun a60 c60 hl60 => ?_
         try simp only [Option.getD_some, Option.getD_none] at hl60 ⊢
         refine ol_r (r_assign rfl) rfl ?_
         refine ol_nil (to_k0 (fun _ _ h => h) (hK4 (((_, _, _, la'), (_, _, _, lb'), _, _, _, out')) _ _ ?_ ?_ (sub_cons rfl (sub_cons rfl (sub_cons rfl sub_nil))) (sub_cons rfl sub_nil) (by exact (subH_row rfl (by first | (dsimp only; rw [eo, encStr_snoc]; rfl; done) | (rw [eo, encStr_snoc]; rfl; done) | (dsimp only; done)) subH_nil)) subH_nil))
         ·try dsimp only
          first
            | (exfalso; omega)
            | (change _ at hx33
               rw [ela, elb, eo]
               refine ⟨rd_tailE hl38 hna, hlb, ?_, by simp [hko], by omega⟩
               have hq : lb = [] ∨ ∃ y, lb[0]? = some y ∧ sLt x33 y = true := by
                 first
                   | exact .inl (List.eq_nil_of_length_eq_zero (by omega))
                   | (obtain rfl := Option.some.inj (hx23.symm.trans hx33)
                      exact .inr ⟨_, hx26, hc30⟩)
               rw [hP, tag_left hx33 hq, List.append_assoc])
            | (change _ at hl52
               rw [ela, elb, eo]
               refine ⟨rd_tailE hl52 hna, rd_tailE hl60 hnb, ?_, by simp [hko], by omega⟩
               obtain rfl := Option.some.inj (hx23.symm.trans hx44)
               obtain rfl := Option.some.inj (hx26.symm.trans hx47)
               obtain rfl := Option.some.inj (hx26.symm.trans hx55)
               rw [hP, tag_both hx44 hx47 (by rw [hc30]; simp) hc50, List.append_assoc])
            | (change _ at hx55
               rw [ela, elb, eo]
               refine ⟨hla, rd_tailE hl60 hnb, ?_, by simp [hko], by omega⟩
               have hq : la = [] ∨ ∃ x, la[0]? = some x ∧ ¬sLt x x55 = true ∧ ¬sEq x x55 = true := by
                 first
                   | exact .inl (List.eq_nil_of_length_eq_zero (by omega))
                   | (obtain rfl := Option.some.inj (hx23.symm.trans hx44)
                      obtain rfl := Option.some.inj (hx26.symm.trans hx47)
                      obtain rfl := Option.some.inj (hx26.symm.trans hx55)
                      exact .inr ⟨_, hx44, by rw [hc30]; simp, by rw [hc50]; simp⟩)
               rw [hP, tag_right hx55 hq, List.append_assoc])
         ·try dsimp only
          omega
        ·refine wp_skip' (to_k0 (fun _ _ h => h) (hK10 _ _ _ _ _ ?_))
         clear hK10
         refine wp_seq' fun K13 hK13 => ?_
         refine wp_reg ?_
         refine ol_r (r_move rfl) rfl ?_
         refine ol_r (r_move rfl) rfl ?_
         refine ol_ixr hlb rfl rfl sl24 (by omega) rfl fun x55 hx55 => ?_
         try simp only [Int.toNat_natCast] at hx55
         refine ol_r (r_ldw rfl (fun w1 hb1 hs1 hB1 => Rd.loads hlb ty9 hx55 hb1)) rfl ?_
         refine ol_bs1 57 rfl rfl rw24 rfl rfl rfl fun a57 => ?_
         refine ol_append1 (id := 5) (id2 := 57) rfl rfl rfl rfl rfl rw24 (by omega) rfl fun a58 c58 => ?_
         first
           | (change _ at hx33
              obtain ⟨la', ela⟩ : ∃ l, l = la.drop 1 := ⟨_, rfl⟩
              obtain ⟨lb', elb⟩ : ∃ l, l = lb := ⟨_, rfl⟩
              obtain ⟨out', eo⟩ : ∃ l, l = out ++ [x33] := ⟨_, rfl⟩)
           | (change _ at hl52
              obtain ⟨la', ela⟩ : ∃ l, l = la.drop 1 := ⟨_, rfl⟩
              obtain ⟨lb', elb⟩ : ∃ l, l = lb.drop 1 := ⟨_, rfl⟩
              obtain ⟨out', eo⟩ : ∃ l, l = out ++ [x55] := ⟨_, rfl⟩)
           | (change _ at hx55
              obtain ⟨la', ela⟩ : ∃ l, l = la := ⟨_, rfl⟩
              obtain ⟨lb', elb⟩ : ∃ l, l = lb.drop 1 := ⟨_, rfl⟩
              obtain ⟨out', eo⟩ : ∃ l, l = out ++ [x55] := ⟨_, rfl⟩)
           | skip
         refine ol_r (r_assign rfl) rfl ?_
         refine ol_nil (to_k0 (fun _ _ h => h) (hK13 _ _ _ _ _ ?_))
         clear hK13
         refine wp_reg ?_
         refine ol_r (r_move rfl) rfl ?_
         refine ol_slr hlb rfl rfl rfl sl24 (by simp only [Option.getD_some, Option.getD_none]; omega) rfl fun a60 c60 hl60 => ?_
         try simp only [Option.getD_some, Option.getD_none] at hl60 ⊢
         refine ol_r (r_assign rfl) rfl ?_
         refine ol_nil (to_k0 (fun _ _ h => h) (hK4 (((_, _, _, la'), (_, _, _, lb'), _, _, _, out')) _ _ ?_ ?_ (sub_cons rfl (sub_cons rfl (sub_cons rfl sub_nil))) (sub_cons rfl sub_nil) (by exact (subH_row rfl (by first | (dsimp only; rw [eo, encStr_snoc]; rfl; done) | (rw [eo, encStr_snoc]; rfl; done) | (dsimp only; done)) subH_nil)) subH_nil))
         ·try dsimp only
          first
            | (exfalso; omega)
            | (change _ at hx33
               rw [ela, elb, eo]
               refine ⟨rd_tailE hl38 hna, hlb, ?_, by simp [hko], by omega⟩
               have hq : lb = [] ∨ ∃ y, lb[0]? = some y ∧ sLt x33 y = true := by
                 first
                   | exact .inl (List.eq_nil_of_length_eq_zero (by omega))
                   | (obtain rfl := Option.some.inj (hx23.symm.trans hx33)
                      exact .inr ⟨_, hx26, hc30⟩)
               rw [hP, tag_left hx33 hq, List.append_assoc])
            | (change _ at hl52
               rw [ela, elb, eo]
               refine ⟨rd_tailE hl52 hna, rd_tailE hl60 hnb, ?_, by simp [hko], by omega⟩
               obtain rfl := Option.some.inj (hx23.symm.trans hx44)
               obtain rfl := Option.some.inj (hx26.symm.trans hx47)
               obtain rfl := Option.some.inj (hx26.symm.trans hx55)
               rw [hP, tag_both hx44 hx47 (by rw [hc30]; simp) hc50, List.append_assoc])
            | (change _ at hx55
               rw [ela, elb, eo]
               refine ⟨hla, rd_tailE hl60 hnb, ?_, by simp [hko], by omega⟩
               have hq : la = [] ∨ ∃ x, la[0]? = some x ∧ ¬sLt x x55 = true ∧ ¬sEq x x55 = true := by
                 first
                   | exact .inl (List.eq_nil_of_length_eq_zero (by omega))
                   | (obtain rfl := Option.some.inj (hx23.symm.trans hx44)
                      obtain rfl := Option.some.inj (hx26.symm.trans hx47)
                      obtain rfl := Option.some.inj (hx26.symm.trans hx55)
                      exact .inr ⟨_, hx44, by rw [hc30]; simp, by rw [hc50]; simp⟩)
               rw [hP, tag_right hx55 hq, List.append_assoc])
         ·try dsimp only
          omega
       ·have phs42 := hs42; try simp only [decide_eq_true_eq, decide_eq_false_iff_not, Bool.not_eq_true', Bool.not_eq_false', Bool.not_true, Bool.not_false] at phs42
        refine ql_s rfl rfl hs42 rfl ?_
        refine ql_s rfl rfl hs42 rfl ?_
        refine ql_s rfl rfl hs42 rfl ?_
        refine ql_s rfl rfl hs42 rfl ?_
        refine ql_s rfl rfl hs42 rfl ?_
        refine ql_s rfl rfl hs42 rfl ?_
        refine ql_s rfl rfl hs42 rfl ?_
        refine ql_r (r_pickF rfl hs42 rfl) rfl ?_
        refine ql_nil (to_k0 (fun _ _ h => h) (hK11 _ _ _ _ _ ?_))
        clear hK11
        refine wp_condF rfl ?_
        refine wp_skip' (to_k0 (fun _ _ h => h) (hK10 _ _ _ _ _ ?_))
        clear hK10
        refine wp_seq' fun K14 hK14 => ?_
        refine wp_reg ?_
        refine ol_r (r_move rfl) rfl ?_
        refine ol_r (r_move rfl) rfl ?_
        refine ol_ixr hlb rfl rfl sl24 (by omega) rfl fun x55 hx55 => ?_
        try simp only [Int.toNat_natCast] at hx55
        refine ol_r (r_ldw rfl (fun w1 hb1 hs1 hB1 => Rd.loads hlb ty9 hx55 hb1)) rfl ?_
        refine ol_bs1 57 rfl rfl rw24 rfl rfl rfl fun a57 => ?_
        refine ol_append1 (id := 5) (id2 := 57) rfl rfl rfl rfl rfl rw24 (by omega) rfl fun a58 c58 => ?_
        first
          | (change _ at hx33
             obtain ⟨la', ela⟩ : ∃ l, l = la.drop 1 := ⟨_, rfl⟩
             obtain ⟨lb', elb⟩ : ∃ l, l = lb := ⟨_, rfl⟩
             obtain ⟨out', eo⟩ : ∃ l, l = out ++ [x33] := ⟨_, rfl⟩)
          | (change _ at hl52
             obtain ⟨la', ela⟩ : ∃ l, l = la.drop 1 := ⟨_, rfl⟩
             obtain ⟨lb', elb⟩ : ∃ l, l = lb.drop 1 := ⟨_, rfl⟩
             obtain ⟨out', eo⟩ : ∃ l, l = out ++ [x55] := ⟨_, rfl⟩)
          | (change _ at hx55
             obtain ⟨la', ela⟩ : ∃ l, l = la := ⟨_, rfl⟩
             obtain ⟨lb', elb⟩ : ∃ l, l = lb.drop 1 := ⟨_, rfl⟩
             obtain ⟨out', eo⟩ : ∃ l, l = out ++ [x55] := ⟨_, rfl⟩)
          | skip
        refine ol_r (r_assign rfl) rfl ?_
        refine ol_nil (to_k0 (fun _ _ h => h) (hK14 _ _ _ _ _ ?_))
        clear hK14
        refine wp_reg ?_
        refine ol_r (r_move rfl) rfl ?_
        refine ol_slr hlb rfl rfl rfl sl24 (by simp only [Option.getD_some, Option.getD_none]; omega) rfl fun a60 c60 hl60 => ?_
        try simp only [Option.getD_some, Option.getD_none] at hl60 ⊢
        refine ol_r (r_assign rfl) rfl ?_
        refine ol_nil (to_k0 (fun _ _ h => h) (hK4 (((_, _, _, la'), (_, _, _, lb'), _, _, _, out')) _ _ ?_ ?_ (sub_cons rfl (sub_cons rfl (sub_cons rfl sub_nil))) (sub_cons rfl sub_nil) (by exact (subH_row rfl (by first | (dsimp only; rw [eo, encStr_snoc]; rfl; done) | (rw [eo, encStr_snoc]; rfl; done) | (dsimp only; done)) subH_nil)) subH_nil))
        ·try dsimp only
         first
           | (exfalso; omega)
           | (change _ at hx33
              rw [ela, elb, eo]
              refine ⟨rd_tailE hl38 hna, hlb, ?_, by simp [hko], by omega⟩
              have hq : lb = [] ∨ ∃ y, lb[0]? = some y ∧ sLt x33 y = true := by
                first
                  | exact .inl (List.eq_nil_of_length_eq_zero (by omega))
                  | (obtain rfl := Option.some.inj (hx23.symm.trans hx33)
                     exact .inr ⟨_, hx26, hc30⟩)
              rw [hP, tag_left hx33 hq, List.append_assoc])
           | (change _ at hl52
              rw [ela, elb, eo]
              refine ⟨rd_tailE hl52 hna, rd_tailE hl60 hnb, ?_, by simp [hko], by omega⟩
              obtain rfl := Option.some.inj (hx23.symm.trans hx44)
              obtain rfl := Option.some.inj (hx26.symm.trans hx47)
              obtain rfl := Option.some.inj (hx26.symm.trans hx55)
              rw [hP, tag_both hx44 hx47 (by rw [hc30]; simp) hc50, List.append_assoc])
           | (change _ at hx55
              rw [ela, elb, eo]
              refine ⟨hla, rd_tailE hl60 hnb, ?_, by simp [hko], by omega⟩
              have hq : la = [] ∨ ∃ x, la[0]? = some x ∧ ¬sLt x x55 = true ∧ ¬sEq x x55 = true := by
                first
                  | exact .inl (List.eq_nil_of_length_eq_zero (by omega))
                  | (obtain rfl := Option.some.inj (hx23.symm.trans hx44)
                     obtain rfl := Option.some.inj (hx26.symm.trans hx47)
                     obtain rfl := Option.some.inj (hx26.symm.trans hx55)
                     exact .inr ⟨_, hx44, by rw [hc30]; simp, by rw [hc50]; simp⟩)
              rw [hP, tag_right hx55 hq, List.append_assoc])
        ·try dsimp only
         omega
     ·have phs21 := hs21; try simp only [decide_eq_true_eq, decide_eq_false_iff_not, Bool.not_eq_true', Bool.not_eq_false', Bool.not_true, Bool.not_false] at phs21
      refine ql_s rfl rfl hs21 rfl ?_
      refine ql_s rfl rfl hs21 rfl ?_
      refine ql_s rfl rfl hs21 rfl ?_
      refine ql_s rfl rfl hs21 rfl ?_
      refine ql_s rfl rfl hs21 rfl ?_
      refine ql_s rfl rfl hs21 rfl ?_
      refine ql_s rfl rfl hs21 rfl ?_
      refine ql_g rfl rfl hs17 ?_
      refine ql_r (r_pickF rfl hs21 rfl) rfl ?_
      refine ql_r (r_pickF rfl hs17 rfl) rfl ?_
      refine ql_nil (to_k0 (fun _ _ h => h) (hK7 _ _ _ _ _ ?_))
      clear hK7
      refine wp_condF rfl ?_
      refine wp_seq' fun K15 hK15 => ?_
      refine wp_seq' fun K16 hK16 => ?_
      refine wp_regq (by kernel_rfl) (by kernel_rfl) ?_
      refine ql_r (r_move rfl) rfl ?_
      refine ql_r (r_len rfl sl24) rfl ?_
      refine ql_r (r_gtr rfl rfl) rfl ?_
      refine ql_r (r_move rfl) rfl ?_
      refine ql_split (d := 42) rfl (fun hs42 => ?_) (fun hs42 => ?_)
      ·have phs42 := hs42; try simp only [decide_eq_true_eq, decide_eq_false_iff_not, Bool.not_eq_true', Bool.not_eq_false', Bool.not_true, Bool.not_false] at phs42
       refine ql_g rfl rfl hs42 ?_
       refine ql_r (r_move rfl) rfl ?_
       refine ql_g rfl rfl hs42 ?_
       refine ql_ixr hla rfl rfl sl24 (by omega) rfl fun x44 hx44 => ?_
       try simp only [Int.toNat_natCast] at hx44
       refine ql_g rfl rfl hs42 ?_
       refine ql_r (r_ldw rfl (fun w1 hb1 hs1 hB1 => Rd.loads hla ty9 hx44 hb1)) rfl ?_
       refine ql_g rfl rfl hs42 ?_
       refine ql_r (r_move rfl) rfl ?_
       refine ql_g rfl rfl hs42 ?_
       refine ql_ixr hlb rfl rfl sl24 (by omega) rfl fun x47 hx47 => ?_
       try simp only [Int.toNat_natCast] at hx47
       refine ql_g rfl rfl hs42 ?_
       refine ql_r (r_ldw rfl (fun w1 hb1 hs1 hB1 => Rd.loads hlb ty9 hx47 hb1)) rfl ?_
       refine ql_g rfl rfl hs42 ?_
       refine ql_r (r_seql rfl rfl) rfl ?_
       refine ql_r (r_pickT rfl hs42 rfl) rfl ?_
       refine ql_nil (to_k0 (fun _ _ h => h) (hK16 _ _ _ _ _ ?_))
       clear hK16
       first | refine wp_condD rfl (fun hc50 => ?_) (fun hc50 => ?_) | refine wp_condN rfl (fun hc50 => ?_) (fun hc50 => ?_) | refine wp_condNB rfl (fun hc50 => ?_) (fun hc50 => ?_) | refine wp_cond' rfl (fun hc50 => ?_) (fun hc50 => ?_)
       ·refine wp_reg ?_
        refine ol_r (r_move rfl) rfl ?_
        refine ol_slr hla rfl rfl rfl sl24 (by simp only [Option.getD_some, Option.getD_none]; omega) rfl fun a52 c52 hl52 => ?_
        try simp only [Option.getD_some, Option.getD_none] at hl52 ⊢
        refine ol_r (r_assign rfl) rfl ?_
        refine ol_nil (to_k0 (fun _ _ h => h) (hK15 _ _ _ _ _ ?_))
        clear hK15
        refine wp_seq' fun K17 hK17 => ?_
        refine wp_reg ?_
        refine ol_r (r_move rfl) rfl ?_
        refine ol_r (r_move rfl) rfl ?_
        refine ol_ixr hlb rfl rfl sl24 (by omega) rfl fun x55 hx55 => ?_
        try simp only [Int.toNat_natCast] at hx55
        refine ol_r (r_ldw rfl (fun w1 hb1 hs1 hB1 => Rd.loads hlb ty9 hx55 hb1)) rfl ?_
        refine ol_bs1 57 rfl rfl rw24 rfl rfl rfl fun a57 => ?_
        refine ol_append1 (id := 5) (id2 := 57) rfl rfl rfl rfl rfl rw24 (by omega) rfl fun a58 c58 => ?_
        first
          | (change _ at hx33
             obtain ⟨la', ela⟩ : ∃ l, l = la.drop 1 := ⟨_, rfl⟩
             obtain ⟨lb', elb⟩ : ∃ l, l = lb := ⟨_, rfl⟩
             obtain ⟨out', eo⟩ : ∃ l, l = out ++ [x33] := ⟨_, rfl⟩)
          | (change _ at hl52
             obtain ⟨la', ela⟩ : ∃ l, l = la.drop 1 := ⟨_, rfl⟩
             obtain ⟨lb', elb⟩ : ∃ l, l = lb.drop 1 := ⟨_, rfl⟩
             obtain ⟨out', eo⟩ : ∃ l, l = out ++ [x55] := ⟨_, rfl⟩)
          | (change _ at hx55
             obtain ⟨la', ela⟩ : ∃ l, l = la := ⟨_, rfl⟩
             obtain ⟨lb', elb⟩ : ∃ l, l = lb.drop 1 := ⟨_, rfl⟩
             obtain ⟨out', eo⟩ : ∃ l, l = out ++ [x55] := ⟨_, rfl⟩)
          | skip
        refine ol_r (r_assign rfl) rfl ?_
        refine ol_nil (to_k0 (fun _ _ h => h) (hK17 _ _ _ _ _ ?_))
        clear hK17
        refine wp_reg ?_
        refine ol_r (r_move rfl) rfl ?_
        refine ol_slr hlb rfl rfl rfl sl24 (by simp only [Option.getD_some, Option.getD_none]; omega) rfl fun a60 c60 hl60 => ?_
        try simp only [Option.getD_some, Option.getD_none] at hl60 ⊢
        refine ol_r (r_assign rfl) rfl ?_
        refine ol_nil (to_k0 (fun _ _ h => h) (hK4 (((_, _, _, la'), (_, _, _, lb'), _, _, _, out')) _ _ ?_ ?_ (sub_cons rfl (sub_cons rfl (sub_cons rfl sub_nil))) (sub_cons rfl sub_nil) (by exact (subH_row rfl (by first | (dsimp only; rw [eo, encStr_snoc]; rfl; done) | (rw [eo, encStr_snoc]; rfl; done) | (dsimp only; done)) subH_nil)) subH_nil))
        ·try dsimp only
         first
           | (exfalso; omega)
           | (change _ at hx33
              rw [ela, elb, eo]
              refine ⟨rd_tailE hl38 hna, hlb, ?_, by simp [hko], by omega⟩
              have hq : lb = [] ∨ ∃ y, lb[0]? = some y ∧ sLt x33 y = true := by
                first
                  | exact .inl (List.eq_nil_of_length_eq_zero (by omega))
                  | (obtain rfl := Option.some.inj (hx23.symm.trans hx33)
                     exact .inr ⟨_, hx26, hc30⟩)
              rw [hP, tag_left hx33 hq, List.append_assoc])
           | (change _ at hl52
              rw [ela, elb, eo]
              refine ⟨rd_tailE hl52 hna, rd_tailE hl60 hnb, ?_, by simp [hko], by omega⟩
              obtain rfl := Option.some.inj (hx23.symm.trans hx44)
              obtain rfl := Option.some.inj (hx26.symm.trans hx47)
              obtain rfl := Option.some.inj (hx26.symm.trans hx55)
              rw [hP, tag_both hx44 hx47 (by rw [hc30]; simp) hc50, List.append_assoc])
           | (change _ at hx55
              rw [ela, elb, eo]
              refine ⟨hla, rd_tailE hl60 hnb, ?_, by simp [hko], by omega⟩
              have hq : la = [] ∨ ∃ x, la[0]? = some x ∧ ¬sLt x x55 = true ∧ ¬sEq x x55 = true := by
                first
                  | exact .inl (List.eq_nil_of_length_eq_zero (by omega))
                  | (obtain rfl := Option.some.inj (hx23.symm.trans hx44)
                     obtain rfl := Option.some.inj (hx26.symm.trans hx47)
                     obtain rfl := Option.some.inj (hx26.symm.trans hx55)
                     exact .inr ⟨_, hx44, by rw [hc30]; simp, by rw [hc50]; simp⟩)
              rw [hP, tag_right hx55 hq, List.append_assoc])
        ·try dsimp only
         omega
       ·refine wp_skip' (to_k0 (fun _ _ h => h) (hK15 _ _ _ _ _ ?_))
        clear hK15
        refine wp_seq' fun K18 hK18 => ?_
        refine wp_reg ?_
        refine ol_r (r_move rfl) rfl ?_
        refine ol_r (r_move rfl) rfl ?_
        refine ol_ixr hlb rfl rfl sl24 (by omega) rfl fun x55 hx55 => ?_
        try simp only [Int.toNat_natCast] at hx55
        refine ol_r (r_ldw rfl (fun w1 hb1 hs1 hB1 => Rd.loads hlb ty9 hx55 hb1)) rfl ?_
        refine ol_bs1 57 rfl rfl rw24 rfl rfl rfl fun a57 => ?_
        refine ol_append1 (id := 5) (id2 := 57) rfl rfl rfl rfl rfl rw24 (by omega) rfl fun a58 c58 => ?_
        first
          | (change _ at hx33
             obtain ⟨la', ela⟩ : ∃ l, l = la.drop 1 := ⟨_, rfl⟩
             obtain ⟨lb', elb⟩ : ∃ l, l = lb := ⟨_, rfl⟩
             obtain ⟨out', eo⟩ : ∃ l, l = out ++ [x33] := ⟨_, rfl⟩)
          | (change _ at hl52
             obtain ⟨la', ela⟩ : ∃ l, l = la.drop 1 := ⟨_, rfl⟩
             obtain ⟨lb', elb⟩ : ∃ l, l = lb.drop 1 := ⟨_, rfl⟩
             obtain ⟨out', eo⟩ : ∃ l, l = out ++ [x55] := ⟨_, rfl⟩)
          | (change _ at hx55
             obtain ⟨la', ela⟩ : ∃ l, l = la := ⟨_, rfl⟩
             obtain ⟨lb', elb⟩ : ∃ l, l = lb.drop 1 := ⟨_, rfl⟩
             obtain ⟨out', eo⟩ : ∃ l, l = out ++ [x55] := ⟨_, rfl⟩)
          | skip
        refine ol_r (r_assign rfl) rfl ?_
        refine ol_nil (to_k0 (fun _ _ h => h) (hK18 _ _ _ _ _ ?_))
        clear hK18
        refine wp_reg ?_
        refine ol_r (r_move rfl) rfl ?_
        refine ol_slr hlb rfl rfl rfl sl24 (by simp only [Option.getD_some, Option.getD_none]; omega) rfl fun a60 c60 hl60 => ?_
        try simp only [Option.getD_some, Option.getD_none] at hl60 ⊢
        refine ol_r (r_assign rfl) rfl ?_
        refine ol_nil (to_k0 (fun _ _ h => h) (hK4 (((_, _, _, la'), (_, _, _, lb'), _, _, _, out')) _ _ ?_ ?_ (sub_cons rfl (sub_cons rfl (sub_cons rfl sub_nil))) (sub_cons rfl sub_nil) (by exact (subH_row rfl (by first | (dsimp only; rw [eo, encStr_snoc]; rfl; done) | (rw [eo, encStr_snoc]; rfl; done) | (dsimp only; done)) subH_nil)) subH_nil))
        ·try dsimp only
         first
           | (exfalso; omega)
           | (change _ at hx33
              rw [ela, elb, eo]
              refine ⟨rd_tailE hl38 hna, hlb, ?_, by simp [hko], by omega⟩
              have hq : lb = [] ∨ ∃ y, lb[0]? = some y ∧ sLt x33 y = true := by
                first
                  | exact .inl (List.eq_nil_of_length_eq_zero (by omega))
                  | (obtain rfl := Option.some.inj (hx23.symm.trans hx33)
                     exact .inr ⟨_, hx26, hc30⟩)
              rw [hP, tag_left hx33 hq, List.append_assoc])
           | (change _ at hl52
              rw [ela, elb, eo]
              refine ⟨rd_tailE hl52 hna, rd_tailE hl60 hnb, ?_, by simp [hko], by omega⟩
              obtain rfl := Option.some.inj (hx23.symm.trans hx44)
              obtain rfl := Option.some.inj (hx26.symm.trans hx47)
              obtain rfl := Option.some.inj (hx26.symm.trans hx55)
              rw [hP, tag_both hx44 hx47 (by rw [hc30]; simp) hc50, List.append_assoc])
           | (change _ at hx55
              rw [ela, elb, eo]
              refine ⟨hla, rd_tailE hl60 hnb, ?_, by simp [hko], by omega⟩
              have hq : la = [] ∨ ∃ x, la[0]? = some x ∧ ¬sLt x x55 = true ∧ ¬sEq x x55 = true := by
                first
                  | exact .inl (List.eq_nil_of_length_eq_zero (by omega))
                  | (obtain rfl := Option.some.inj (hx23.symm.trans hx44)
                     obtain rfl := Option.some.inj (hx26.symm.trans hx47)
                     obtain rfl := Option.some.inj (hx26.symm.trans hx55)
                     exact .inr ⟨_, hx44, by rw [hc30]; simp, by rw [hc50]; simp⟩)
              rw [hP, tag_right hx55 hq, List.append_assoc])
        ·try dsimp only
         omega
      ·have phs42 := hs42; try simp only [decide_eq_true_eq, decide_eq_false_iff_not, Bool.not_eq_true', Bool.not_eq_false', Bool.not_true, Bool.not_false] at phs42
       refine ql_s rfl rfl hs42 rfl ?_
       refine ql_s rfl rfl hs42 rfl ?_
       refine ql_s rfl rfl hs42 rfl ?_
       refine ql_s rfl rfl hs42 rfl ?_
       refine ql_s rfl rfl hs42 rfl ?_
       refine ql_s rfl rfl hs42 rfl ?_
       refine ql_s rfl rfl hs42 rfl ?_
       refine ql_r (r_pickF rfl hs42 rfl) rfl ?_
       refine ql_nil (to_k0 (fun _ _ h => h) (hK16 _ _ _ _ _ ?_))
       clear hK16
       refine wp_condF rfl ?_
       refine wp_skip' (to_k0 (fun _ _ h => h) (hK15 _ _ _ _ _ ?_))
       clear hK15
       refine wp_seq' fun K19 hK19 => ?_
       refine wp_reg ?_
       refine ol_r (r_move rfl) rfl ?_
       refine ol_r (r_move rfl) rfl ?_
       refine ol_ixr hlb rfl rfl sl24 (by omega) rfl fun x55 hx55 => ?_
       try simp only [Int.toNat_natCast] at hx55
       refine ol_r (r_ldw rfl (fun w1 hb1 hs1 hB1 => Rd.loads hlb ty9 hx55 hb1)) rfl ?_
       refine ol_bs1 57 rfl rfl rw24 rfl rfl rfl fun a57 => ?_
       refine ol_append1 (id := 5) (id2 := 57) rfl rfl rfl rfl rfl rw24 (by omega) rfl fun a58 c58 => ?_
       first
         | (change _ at hx33
            obtain ⟨la', ela⟩ : ∃ l, l = la.drop 1 := ⟨_, rfl⟩
            obtain ⟨lb', elb⟩ : ∃ l, l = lb := ⟨_, rfl⟩
            obtain ⟨out', eo⟩ : ∃ l, l = out ++ [x33] := ⟨_, rfl⟩)
         | (change _ at hl52
            obtain ⟨la', ela⟩ : ∃ l, l = la.drop 1 := ⟨_, rfl⟩
            obtain ⟨lb', elb⟩ : ∃ l, l = lb.drop 1 := ⟨_, rfl⟩
            obtain ⟨out', eo⟩ : ∃ l, l = out ++ [x55] := ⟨_, rfl⟩)
         | (change _ at hx55
            obtain ⟨la', ela⟩ : ∃ l, l = la := ⟨_, rfl⟩
            obtain ⟨lb', elb⟩ : ∃ l, l = lb.drop 1 := ⟨_, rfl⟩
            obtain ⟨out', eo⟩ : ∃ l, l = out ++ [x55] := ⟨_, rfl⟩)
         | skip
       refine ol_r (r_assign rfl) rfl ?_
       refine ol_nil (to_k0 (fun _ _ h => h) (hK19 _ _ _ _ _ ?_))
       clear hK19
       refine wp_reg ?_
       refine ol_r (r_move rfl) rfl ?_
       refine ol_slr hlb rfl rfl rfl sl24 (by simp only [Option.getD_some, Option.getD_none]; omega) rfl fun a60 c60 hl60 => ?_
       try simp only [Option.getD_some, Option.getD_none] at hl60 ⊢
       refine ol_r (r_assign rfl) rfl ?_
       refine ol_nil (to_k0 (fun _ _ h => h) (hK4 (((_, _, _, la'), (_, _, _, lb'), _, _, _, out')) _ _ ?_ ?_ (sub_cons rfl (sub_cons rfl (sub_cons rfl sub_nil))) (sub_cons rfl sub_nil) (by exact (subH_row rfl (by first | (dsimp only; rw [eo, encStr_snoc]; rfl; done) | (rw [eo, encStr_snoc]; rfl; done) | (dsimp only; done)) subH_nil)) subH_nil))
       ·try dsimp only
        first
          | (exfalso; omega)
          | (change _ at hx33
             rw [ela, elb, eo]
             refine ⟨rd_tailE hl38 hna, hlb, ?_, by simp [hko], by omega⟩
             have hq : lb = [] ∨ ∃ y, lb[0]? = some y ∧ sLt x33 y = true := by
               first
                 | exact .inl (List.eq_nil_of_length_eq_zero (by omega))
                 | (obtain rfl := Option.some.inj (hx23.symm.trans hx33)
                    exact .inr ⟨_, hx26, hc30⟩)
             rw [hP, tag_left hx33 hq, List.append_assoc])
          | (change _ at hl52
             rw [ela, elb, eo]
             refine ⟨rd_tailE hl52 hna, rd_tailE hl60 hnb, ?_, by simp [hko], by omega⟩
             obtain rfl := Option.some.inj (hx23.symm.trans hx44)
             obtain rfl := Option.some.inj (hx26.symm.trans hx47)
             obtain rfl := Option.some.inj (hx26.symm.trans hx55)
             rw [hP, tag_both hx44 hx47 (by rw [hc30]; simp) hc50, List.append_assoc])
          | (change _ at hx55
             rw [ela, elb, eo]
             refine ⟨hla, rd_tailE hl60 hnb, ?_, by simp [hko], by omega⟩
             have hq : la = [] ∨ ∃ x, la[0]? = some x ∧ ¬sLt x x55 = true ∧ ¬sEq x x55 = true := by
               first
                 | exact .inl (List.eq_nil_of_length_eq_zero (by omega))
                 | (obtain rfl := Option.some.inj (hx23.symm.trans hx44)
                    obtain rfl := Option.some.inj (hx26.symm.trans hx47)
                    obtain rfl := Option.some.inj (hx26.symm.trans hx55)
                    exact .inr ⟨_, hx44, by rw [hc30]; simp, by rw [hc50]; simp⟩)
             rw [hP, tag_right hx55 hq, List.append_assoc])
       ·try dsimp only
        omega
   ·have phs9 := hs9; try simp only [decide_eq_true_eq, decide_eq_false_iff_not, Bool.not_eq_true', Bool.not_eq_false', Bool.not_true, Bool.not_false] at phs9
    refine ol_g rfl rfl hs9 ?_
    refine ol_r (r_move rfl) rfl ?_
    refine ol_g rfl rfl hs9 ?_
    refine ol_r (r_len rfl sl24) rfl ?_
    refine ol_g rfl rfl hs9 ?_
    refine ol_r (r_gtr rfl rfl) rfl ?_
    refine ol_r (r_pickF rfl hs9 rfl) rfl ?_
    refine ol_nil (to_k0 (fun _ _ h => h) (hK6 _ _ _ _ _ ?_))
    clear hK6
    first | refine wp_condD rfl (fun hc13 => ?_) (fun hc13 => ?_) | refine wp_condN rfl (fun hc13 => ?_) (fun hc13 => ?_) | refine wp_condNB rfl (fun hc13 => ?_) (fun hc13 => ?_) | refine wp_cond' rfl (fun hc13 => ?_) (fun hc13 => ?_)
    ·refine wp_skip' (to_k0 (fun _ _ h => h) (hK5 _ _ _ _ _ ?_))
     clear hK5
     refine wp_block' ?_
     refine wp_seq' fun K20 hK20 => ?_
     refine wp_regq (by kernel_rfl) (by kernel_rfl) ?_
     refine ql_r (r_move rfl) rfl ?_
     refine ql_r (r_len rfl sl24) rfl ?_
     refine ql_r (r_eql rfl rfl) rfl ?_
     refine ql_r (r_move rfl) rfl ?_
     refine ql_split (d := 17) rfl (fun hs17 => ?_) (fun hs17 => ?_)
     ·have phs17 := hs17; try simp only [decide_eq_true_eq, decide_eq_false_iff_not, Bool.not_eq_true', Bool.not_eq_false', Bool.not_true, Bool.not_false] at phs17
      refine ql_s rfl rfl hs17 rfl ?_
      refine ql_s rfl rfl hs17 rfl ?_
      refine ql_s rfl rfl hs17 rfl ?_
      refine ql_s rfl rfl hs17 rfl ?_
      refine ql_u rfl rfl rfl ?_
      refine ql_u rfl rfl rfl ?_
      refine ql_u rfl rfl rfl ?_
      refine ql_u rfl rfl rfl ?_
      refine ql_u rfl rfl rfl ?_
      refine ql_u rfl rfl rfl ?_
      refine ql_u rfl rfl rfl ?_
      refine ql_s rfl rfl hs17 rfl ?_
      refine ql_r (r_pickT rfl hs17 rfl) rfl ?_
      refine ql_nil (to_k0 (fun _ _ h => h) (hK20 _ _ _ _ _ ?_))
      clear hK20
      refine wp_condT rfl ?_
      refine wp_seq' fun K21 hK21 => ?_
      refine wp_reg ?_
      refine ol_r (r_move rfl) rfl ?_
      refine ol_r (r_move rfl) rfl ?_
      refine ol_ixr hla rfl rfl sl24 (by omega) rfl fun x33 hx33 => ?_
      try simp only [Int.toNat_natCast] at hx33
      refine ol_r (r_ldw rfl (fun w1 hb1 hs1 hB1 => Rd.loads hla ty9 hx33 hb1)) rfl ?_
      refine ol_bs1 35 rfl rfl rw24 rfl rfl rfl fun a35 => ?_
      refine ol_append1 (id := 5) (id2 := 35) rfl rfl rfl rfl rfl rw24 (by omega) rfl fun a36 c36 => ?_
      first
        | (change _ at hx33
           obtain ⟨la', ela⟩ : ∃ l, l = la.drop 1 := ⟨_, rfl⟩
           obtain ⟨lb', elb⟩ : ∃ l, l = lb := ⟨_, rfl⟩
           obtain ⟨out', eo⟩ : ∃ l, l = out ++ [x33] := ⟨_, rfl⟩)
        | (change _ at hl52
           obtain ⟨la', ela⟩ : ∃ l, l = la.drop 1 := ⟨_, rfl⟩
           obtain ⟨lb', elb⟩ : ∃ l, l = lb.drop 1 := ⟨_, rfl⟩
           obtain ⟨out', eo⟩ : ∃ l, l = out ++ [x55] := ⟨_, rfl⟩)
        | (change _ at hx55
           obtain ⟨la', ela⟩ : ∃ l, l = la := ⟨_, rfl⟩
           obtain ⟨lb', elb⟩ : ∃ l, l = lb.drop 1 := ⟨_, rfl⟩
           obtain ⟨out', eo⟩ : ∃ l, l = out ++ [x55] := ⟨_, rfl⟩)
        | skip
      refine ol_r (r_assign rfl) rfl ?_
      refine ol_nil (to_k0 (fun _ _ h => h) (hK21 _ _ _ _ _ ?_))
      clear hK21
      refine wp_reg ?_
      refine ol_r (r_move rfl) rfl ?_
      refine ol_slr hla rfl rfl rfl sl24 (by simp only [Option.getD_some, Option.getD_none]; omega) rfl fun a38 c38 hl38 => ?_
      try simp only [Option.getD_some, Option.getD_none] at hl38 ⊢
      refine ol_r (r_assign rfl) rfl ?_
      refine ol_nil (to_k0 (fun _ _ h => h) (hK4 (((_, _, _, la'), (_, _, _, lb'), _, _, _, out')) _ _ ?_ ?_ (sub_cons rfl (sub_cons rfl (sub_cons rfl sub_nil))) (sub_cons rfl sub_nil) (by exact (subH_row rfl (by first | (dsimp only; rw [eo, encStr_snoc]; rfl; done) | (rw [eo, encStr_snoc]; rfl; done) | (dsimp only; done)) subH_nil)) subH_nil))
      ·try dsimp only
       first
         | (exfalso; omega)
         | (change _ at hx33
            rw [ela, elb, eo]
            refine ⟨rd_tailE hl38 hna, hlb, ?_, by simp [hko], by omega⟩
            have hq : lb = [] ∨ ∃ y, lb[0]? = some y ∧ sLt x33 y = true := by
              first
                | exact .inl (List.eq_nil_of_length_eq_zero (by omega))
                | (obtain rfl := Option.some.inj (hx23.symm.trans hx33)
                   exact .inr ⟨_, hx26, hc30⟩)
            rw [hP, tag_left hx33 hq, List.append_assoc])
         | (change _ at hl52
            rw [ela, elb, eo]
            refine ⟨rd_tailE hl52 hna, rd_tailE hl60 hnb, ?_, by simp [hko], by omega⟩
            obtain rfl := Option.some.inj (hx23.symm.trans hx44)
            obtain rfl := Option.some.inj (hx26.symm.trans hx47)
            obtain rfl := Option.some.inj (hx26.symm.trans hx55)
            rw [hP, tag_both hx44 hx47 (by rw [hc30]; simp) hc50, List.append_assoc])
         | (change _ at hx55
            rw [ela, elb, eo]
            refine ⟨hla, rd_tailE hl60 hnb, ?_, by simp [hko], by omega⟩
            have hq : la = [] ∨ ∃ x, la[0]? = some x ∧ ¬sLt x x55 = true ∧ ¬sEq x x55 = true := by
              first
                | exact .inl (List.eq_nil_of_length_eq_zero (by omega))
                | (obtain rfl := Option.some.inj (hx23.symm.trans hx44)
                   obtain rfl := Option.some.inj (hx26.symm.trans hx47)
                   obtain rfl := Option.some.inj (hx26.symm.trans hx55)
                   exact .inr ⟨_, hx44, by rw [hc30]; simp, by rw [hc50]; simp⟩)
            rw [hP, tag_right hx55 hq, List.append_assoc])
      ·try dsimp only
       omega
     ·have phs17 := hs17; try simp only [decide_eq_true_eq, decide_eq_false_iff_not, Bool.not_eq_true', Bool.not_eq_false', Bool.not_true, Bool.not_false] at phs17
      refine ql_g rfl rfl hs17 ?_
      refine ql_r (r_move rfl) rfl ?_
      refine ql_g rfl rfl hs17 ?_
      refine ql_r (r_len rfl sl24) rfl ?_
      refine ql_g rfl rfl hs17 ?_
      refine ql_r (r_gtr rfl rfl) rfl ?_
      refine ql_g rfl rfl hs17 ?_
      refine ql_r (r_move rfl) rfl ?_
      refine ql_split (d := 21) rfl (fun hs21 => ?_) (fun hs21 => ?_)
      ·have phs21 := hs21; try simp only [decide_eq_true_eq, decide_eq_false_iff_not, Bool.not_eq_true', Bool.not_eq_false', Bool.not_true, Bool.not_false] at phs21
       refine ql_g rfl rfl hs21 ?_
       refine ql_r (r_move rfl) rfl ?_
       refine ql_g rfl rfl hs21 ?_
       refine ql_ixr hla rfl rfl sl24 (by omega) rfl fun x23 hx23 => ?_
       try simp only [Int.toNat_natCast] at hx23
       refine ql_g rfl rfl hs21 ?_
       refine ql_r (r_ldw rfl (fun w1 hb1 hs1 hB1 => Rd.loads hla ty9 hx23 hb1)) rfl ?_
       refine ql_g rfl rfl hs21 ?_
       refine ql_r (r_move rfl) rfl ?_
       refine ql_g rfl rfl hs21 ?_
       refine ql_ixr hlb rfl rfl sl24 (by omega) rfl fun x26 hx26 => ?_
       try simp only [Int.toNat_natCast] at hx26
       refine ql_g rfl rfl hs21 ?_
       refine ql_r (r_ldw rfl (fun w1 hb1 hs1 hB1 => Rd.loads hlb ty9 hx26 hb1)) rfl ?_
       refine ql_g rfl rfl hs21 ?_
       refine ql_r (r_slss rfl rfl) rfl ?_
       refine ql_g rfl rfl hs17 ?_
       refine ql_r (r_pickT rfl hs21 rfl) rfl ?_
       refine ql_r (r_pickF rfl hs17 rfl) rfl ?_
       refine ql_nil (to_k0 (fun _ _ h => h) (hK20 _ _ _ _ _ ?_))
       clear hK20
       first | refine wp_condD rfl (fun hc30 => ?_) (fun hc30 => ?_) | refine wp_condN rfl (fun hc30 => ?_) (fun hc30 => ?_) | refine wp_condNB rfl (fun hc30 => ?_) (fun hc30 => ?_) | refine wp_cond' rfl (fun hc30 => ?_) (fun hc30 => ?_)
       ·refine wp_seq' fun K22 hK22 => ?_
        refine wp_reg ?_
        refine ol_r (r_move rfl) rfl ?_
        refine ol_r (r_move rfl) rfl ?_
        refine ol_ixr hla rfl rfl sl24 (by omega) rfl fun x33 hx33 => ?_
        try simp only [Int.toNat_natCast] at hx33
        refine ol_r (r_ldw rfl (fun w1 hb1 hs1 hB1 => Rd.loads hla ty9 hx33 hb1)) rfl ?_
        refine ol_bs1 35 rfl rfl rw24 rfl rfl rfl fun a35 => ?_
        refine ol_append1 (id := 5) (id2 := 35) rfl rfl rfl rfl rfl rw24 (by omega) rfl fun a36 c36 => ?_
        first
          | (change _ at hx33
             obtain ⟨la', ela⟩ : ∃ l, l = la.drop 1 := ⟨_, rfl⟩
             obtain ⟨lb', elb⟩ : ∃ l, l = lb := ⟨_, rfl⟩
             obtain ⟨out', eo⟩ : ∃ l, l = out ++ [x33] := ⟨_, rfl⟩)
          | (change _ at hl52
             obtain ⟨la', ela⟩ : ∃ l, l = la.drop 1 := ⟨_, rfl⟩
             obtain ⟨lb', elb⟩ : ∃ l, l = lb.drop 1 := ⟨_, rfl⟩
             obtain ⟨out', eo⟩ : ∃ l, l = out ++ [x55] := ⟨_, rfl⟩)
          | (change _ at hx55
             obtain ⟨la', ela⟩ : ∃ l, l = la := ⟨_, rfl⟩
             obtain ⟨lb', elb⟩ : ∃ l, l = lb.drop 1 := ⟨_, rfl⟩
             obtain ⟨out', eo⟩ : ∃ l, l = out ++ [x55] := ⟨_, rfl⟩)
          | skip
        refine ol_r (r_assign rfl) rfl ?_
        refine ol_nil (to_k0 (fun _ _ h => h) (hK22 _ _ _ _ _ ?_))
        clear hK22
        refine wp_reg ?_
        refine ol_r (r_move rfl) rfl ?_
        refine ol_slr hla rfl rfl rfl sl24 (by simp only [Option.getD_some, Option.getD_none]; omega) rfl fun a38 c38 hl38 => ?_
        try simp only [Option.getD_some, Option.getD_none] at hl38 ⊢
        refine ol_r (r_assign rfl) rfl ?_
        refine ol_nil (to_k0 (fun _ _ h => h) (hK4 (((_, _, _, la'), (_, _, _, lb'), _, _, _, out')) _ _ ?_ ?_ (sub_cons rfl (sub_cons rfl (sub_cons rfl sub_nil))) (sub_cons rfl sub_nil) (by exact (subH_row rfl (by first | (dsimp only; rw [eo, encStr_snoc]; rfl; done) | (rw [eo, encStr_snoc]; rfl; done) | (dsimp only; done)) subH_nil)) subH_nil))
        ·try dsimp only
         first
           | (exfalso; omega)
           | (change _ at hx33
              rw [ela, elb, eo]
              refine ⟨rd_tailE hl38 hna, hlb, ?_, by simp [hko], by omega⟩
              have hq : lb = [] ∨ ∃ y, lb[0]? = some y ∧ sLt x33 y = true := by
                first
                  | exact .inl (List.eq_nil_of_length_eq_zero (by omega))
                  | (obtain rfl := Option.some.inj (hx23.symm.trans hx33)
                     exact .inr ⟨_, hx26, hc30⟩)
              rw [hP, tag_left hx33 hq, List.append_assoc])
           | (change _ at hl52
              rw [ela, elb, eo]
              refine ⟨rd_tailE hl52 hna, rd_tailE hl60 hnb, ?_, by simp [hko], by omega⟩
              obtain rfl := Option.some.inj (hx23.symm.trans hx44)
              obtain rfl := Option.some.inj (hx26.symm.trans hx47)
              obtain rfl := Option.some.inj (hx26.symm.trans hx55)
              rw [hP, tag_both hx44 hx47 (by rw [hc30]; simp) hc50, List.append_assoc])
           | (change _ at hx55
              rw [ela, elb, eo]
              refine ⟨hla, rd_tailE hl60 hnb, ?_, by simp [hko], by omega⟩
              have hq : la = [] ∨ ∃ x, la[0]? = some x ∧ ¬sLt x x55 = true ∧ ¬sEq x x55 = true := by
                first
                  | exact .inl (List.eq_nil_of_length_eq_zero (by omega))
                  | (obtain rfl := Option.some.inj (hx23.symm.trans hx44)
                     obtain rfl := Option.some.inj (hx26.symm.trans hx47)
                     obtain rfl := Option.some.inj (hx26.symm.trans hx55)
                     exact .inr ⟨_, hx44, by rw [hc30]; simp, by rw [hc50]; simp⟩)
              rw [hP, tag_right hx55 hq, List.append_assoc])
        ·try dsimp only
         omega
       ·refine wp_seq' fun K23 hK23 => ?_
        refine wp_seq' fun K24 hK24 => ?_
        refine wp_regq (by kernel_rfl) (by kernel_rfl) ?_
        refine ql_r (r_move rfl) rfl ?_
        refine ql_r (r_len rfl sl24) rfl ?_
        refine ql_r (r_gtr rfl rfl) rfl ?_
        refine ql_r (r_move rfl) rfl ?_
        refine ql_split (d := 42) rfl (fun hs42 => ?_) (fun hs42 => ?_)
        ·have phs42 := hs42; try simp only [decide_eq_true_eq, decide_eq_false_iff_not, Bool.not_eq_true', Bool.not_eq_false', Bool.not_true, Bool.not_false] at phs42
         refine ql_g rfl rfl hs42 ?_
         refine ql_r (r_move rfl) rfl ?_
         refine ql_g rfl rfl hs42 ?_
         refine ql_ixr hla rfl rfl sl24 (by omega) rfl fun x44 hx44 => ?_
         try simp only [Int.toNat_natCast] at hx44
         refine ql_g rfl rfl hs42 ?_
         refine ql_r (r_ldw rfl (fun w1 hb1 hs1 hB1 => Rd.loads hla ty9 hx44 hb1)) rfl ?_
         refine ql_g rfl rfl hs42 ?_
         refine ql_r (r_move rfl) rfl ?_
         refine ql_g rfl rfl hs42 ?_
         refine ql_ixr hlb rfl rfl sl24 (by omega) rfl fun x47 hx47 => ?_
         try simp only [Int.toNat_natCast] at hx47
         refine ql_g rfl rfl hs42 ?_
         refine ql_r (r_ldw rfl (fun w1 hb1 hs1 hB1 => Rd.loads hlb ty9 hx47 hb1)) rfl ?_
         refine ql_g rfl rfl hs42 ?_
         refine ql_r (r_seql rfl rfl) rfl ?_
         refine ql_r (r_pickT rfl hs42 rfl) rfl ?_
         refine ql_nil (to_k0 (fun _ _ h => h) (hK24 _ _ _ _ _ ?_))
         clear hK24
         first | refine wp_condD rfl (fun hc50 => ?_) (fun hc50 => ?_) | refine wp_condN rfl (fun hc50 => ?_) (fun hc50 => ?_) | refine wp_condNB rfl (fun hc50 => ?_) (fun hc50 => ?_) | refine wp_cond' rfl (fun hc50 => ?_) (fun hc50 => ?_)
         ·refine wp_reg ?_
          refine ol_r (r_move rfl) rfl ?_
          refine ol_slr hla rfl rfl rfl sl24 (by simp only [Option.getD_some, Option.getD_none]; omega) rfl fun a52 c52 hl52 => ?_
          try simp only [Option.getD_some, Option.getD_none] at hl52 ⊢
          refine ol_r (r_assign rfl) rfl ?_
          refine ol_nil (to_k0 (fun _ _ h => h) (hK23 _ _ _ _ _ ?_))
          clear hK23
          refine wp_seq' fun K25 hK25 => ?_
          refine wp_reg ?_
          refine ol_r (r_move rfl) rfl ?_
          refine ol_r (r_move rfl) rfl ?_
          refine ol_ixr hlb rfl rfl sl24 (by omega) rfl fun x55 hx55 => ?_
          try simp only [Int.toNat_natCast] at hx55
          refine ol_r (r_ldw rfl (fun w1 hb1 hs1 hB1 => Rd.loads hlb ty9 hx55 hb1)) rfl ?_
          refine ol_bs1 57 rfl rfl rw24 rfl rfl rfl fun a57 => ?_
          refine ol_append1 (id := 5) (id2 := 57) rfl rfl rfl rfl rfl rw24 (by omega) rfl fun a58 c58 => ?_
          first
            | (change _ at hx33
               obtain ⟨la', ela⟩ : ∃ l, l = la.drop 1 := ⟨_, rfl⟩
               obtain ⟨lb', elb⟩ : ∃ l, l = lb := ⟨_, rfl⟩
               obtain ⟨out', eo⟩ : ∃ l, l = out ++ [x33] := ⟨_, rfl⟩)
            | (change _ at hl52
               obtain ⟨la', ela⟩ : ∃ l, l = la.drop 1 := ⟨_, rfl⟩
               obtain ⟨lb', elb⟩ : ∃ l, l = lb.drop 1 := ⟨_, rfl⟩
               obtain ⟨out', eo⟩ : ∃ l, l = out ++ [x55] := ⟨_, rfl⟩)
            | (change _ at hx55
               obtain ⟨la', ela⟩ : ∃ l, l = la := ⟨_, rfl⟩
               obtain ⟨lb', elb⟩ : ∃ l, l = lb.drop 1 := ⟨_, rfl⟩
               obtain ⟨out', eo⟩ : ∃ l, l = out ++ [x55] := ⟨_, rfl⟩)
            | skip
          refine ol_r (r_assign rfl) rfl ?_
          refine ol_nil (to_k0 (fun _ _ h => h) (hK25 _ _ _ _ _ ?_))
          clear hK25
          refine wp_reg ?_
          refine ol_r (r_move rfl) rfl ?_
          refine ol_slr hlb rfl rfl rfl sl24 (by simp only [Option.getD_some, Option.getD_none]; omega) rfl fun a60 c60 hl60 => ?_
          try simp only [Option.getD_some, Option.getD_none] at hl60 ⊢
          refine ol_r (r_assign rfl) rfl ?_
          refine ol_nil (to_k0 (fun _ _ h => h) (hK4 (((_, _, _, la'), (_, _, _, lb'), _, _, _, out')) _ _ ?_ ?_ (sub_cons rfl (sub_cons rfl (sub_cons rfl sub_nil))) (sub_cons rfl sub_nil) (by exact (subH_row rfl (by first | (dsimp only; rw [eo, encStr_snoc]; rfl; done) | (rw [eo, encStr_snoc]; rfl; done) | (dsimp only; done)) subH_nil)) subH_nil))
          ·try dsimp only
           first
             | (exfalso; omega)
             | (change _ at hx33
                rw [ela, elb, eo]
                refine ⟨rd_tailE hl38 hna, hlb, ?_, by simp [hko], by omega⟩
                have hq : lb = [] ∨ ∃ y, lb[0]? = some y ∧ sLt x33 y = true := by
                  first
                    | exact .inl (List.eq_nil_of_length_eq_zero (by omega))
                    | (obtain rfl := Option.some.inj (hx23.symm.trans hx33)
                       exact .inr ⟨_, hx26, hc30⟩)
                rw [hP, tag_left hx33 hq, List.append_assoc])
             | (change _ at hl52
                rw [ela, elb, eo]
                refine ⟨rd_tailE hl52 hna, rd_tailE hl60 hnb, ?_, by simp [hko], by omega⟩
                obtain rfl := Option.some.inj (hx23.symm.trans hx44)
                obtain rfl := Option.some.inj (hx26.symm.trans hx47)
                obtain rfl := Option.some.inj (hx26.symm.trans hx55)
                rw [hP, tag_both hx44 hx47 (by rw [hc30]; simp) hc50, List.append_assoc])
             | (change _ at hx55
                rw [ela, elb, eo]
                refine ⟨hla, rd_tailE hl60 hnb, ?_, by simp [hko], by omega⟩
                have hq : la = [] ∨ ∃ x, la[0]? = some x ∧ ¬sLt x x55 = true ∧ ¬sEq x x55 = true := by
                  first
                    | exact .inl (List.eq_nil_of_length_eq_zero (by omega))
                    | (obtain rfl := Option.some.inj (hx23.symm.trans hx44)
                       obtain rfl := Option.some.inj (hx26.symm.trans hx47)
                       obtain rfl := Option.some.inj (hx26.symm.trans hx55)
                       exact .inr ⟨_, hx44, by rw [hc30]; simp, by rw [hc50]; simp⟩)
                rw [hP, tag_right hx55 hq, List.append_assoc])
          ·try dsimp only
           omega
         ·refine wp_skip' (to_k0 (fun _ _ h => h) (hK23 _ _ _ _ _ ?_))
          clear hK23
          refine wp_seq' fun K26 hK26 => ?_
          refine wp_reg ?_
          refine ol_r (r_move rfl) rfl ?_
          refine ol_r (r_move rfl) rfl ?_
          refine ol_ixr hlb rfl rfl sl24 (by omega) rfl fun x55 hx55 => ?_
          try simp only [Int.toNat_natCast] at hx55
          refine ol_r (r_ldw rfl (fun w1 hb1 hs1 hB1 => Rd.loads hlb ty9 hx55 hb1)) rfl ?_
          refine ol_bs1 57 rfl rfl rw24 rfl rfl rfl fun a57 => ?_
          refine ol_append1 (id := 5) (id2 := 57) rfl rfl rfl rfl rfl rw24 (by omega) rfl fun a58 c58 => ?_
          first
            | (change _ at hx33
               obtain ⟨la', ela⟩ : ∃ l, l = la.drop 1 := ⟨_, rfl⟩
               obtain ⟨lb', elb⟩ : ∃ l, l = lb := ⟨_, rfl⟩
               obtain ⟨out', eo⟩ : ∃ l, l = out ++ [x33] := ⟨_, rfl⟩)
            | (change _ at hl52
               obtain ⟨la', ela⟩ : ∃ l, l = la.drop 1 := ⟨_, rfl⟩
               obtain ⟨lb', elb⟩ : ∃ l, l = lb.drop 1 := ⟨_, rfl⟩
               obtain ⟨out', eo⟩ : ∃ l, l = out ++ [x55] := ⟨_, rfl⟩)
            | (change _ at hx55
               obtain ⟨la', ela⟩ : ∃ l, l = la := ⟨_, rfl⟩
               obtain ⟨lb', elb⟩ : ∃ l, l = lb.drop 1 := ⟨_, rfl⟩
               obtain ⟨out', eo⟩ : ∃ l, l = out ++ [x55] := ⟨_, rfl⟩)
            | skip
          refine ol_r (r_assign rfl) rfl ?_
          refine ol_nil (to_k0 (fun _ _ h => h) (hK26 _ _ _ _ _ ?_))
          clear hK26
          refine wp_reg ?_
          refine ol_r (r_move rfl) rfl ?_
          refine ol_slr hlb rfl rfl rfl sl24 (by simp only [Option.getD_some, Option.getD_none]; omega) rfl fun a60 c60 hl60 => ?_
          try simp only [Option.getD_some, Option.getD_none] at hl60 ⊢
          refine ol_r (r_assign rfl) rfl ?_
          refine ol_nil (to_k0 (fun _ _ h => h) (hK4 (((_, _, _, la'), (_, _, _, lb'), _, _, _, out')) _ _ ?_ ?_ (sub_cons rfl (sub_cons rfl (sub_cons rfl sub_nil))) (sub_cons rfl sub_nil) (by exact (subH_row rfl (by first | (dsimp only; rw [eo, encStr_snoc]; rfl; done) | (rw [eo, encStr_snoc]; rfl; done) | (dsimp only; done)) subH_nil)) subH_nil))
          ·try dsimp only
           first
             | (exfalso; omega)
             | (change _ at hx33
                rw [ela, elb, eo]
                refine ⟨rd_tailE hl38 hna, hlb, ?_, by simp [hko], by omega⟩
                have hq : lb = [] ∨ ∃ y, lb[0]? = some y ∧ sLt x33 y = true := by
                  first
                    | exact .inl (List.eq_nil_of_length_eq_zero (by omega))
                    | (obtain rfl := Option.some.inj (hx23.symm.trans hx33)
                       exact .inr ⟨_, hx26, hc30⟩)
                rw [hP, tag_left hx33 hq, List.append_assoc])
             | (change _ at hl52
                rw [ela, elb, eo]
                refine ⟨rd_tailE hl52 hna, rd_tailE hl60 hnb, ?_, by simp [hko], by omega⟩
                obtain rfl := Option.some.inj (hx23.symm.trans hx44)
                obtain rfl := Option.some.inj (hx26.symm.trans hx47)
                obtain rfl := Option.some.inj (hx26.symm.trans hx55)
                rw [hP, tag_both hx44 hx47 (by rw [hc30]; simp) hc50, List.append_assoc])
             | (change _ at hx55
                rw [ela, elb, eo]
                refine ⟨hla, rd_tailE hl60 hnb, ?_, by simp [hko], by omega⟩
                have hq : la = [] ∨ ∃ x, la[0]? = some x ∧ ¬sLt x x55 = true ∧ ¬sEq x x55 = true := by
                  first
                    | exact .inl (List.eq_nil_of_length_eq_zero (by omega))
                    | (obtain rfl := Option.some.inj (hx23.symm.trans hx44)
                       obtain rfl := Option.some.inj (hx26.symm.trans hx47)
                       obtain rfl := Option.some.inj (hx26.symm.trans hx55)
                       exact .inr ⟨_, hx44, by rw [hc30]; simp, by rw [hc50]; simp⟩)
                rw [hP, tag_right hx55 hq, List.append_assoc])
          ·try dsimp only
           omega
        ·have phs42 := hs42; try simp only [decide_eq_true_eq, decide_eq_false_iff_not, Bool.not_eq_true', Bool.not_eq_false', Bool.not_true, Bool.not_false] at phs42
         refine ql_s rfl rfl hs42 rfl ?_
         refine ql_s rfl rfl hs42 rfl ?_
         refine ql_s rfl rfl hs42 rfl ?_
         refine ql_s rfl rfl hs42 rfl ?_
         refine ql_s rfl rfl hs42 rfl ?_
         refine ql_s rfl rfl hs42 rfl ?_
         refine ql_s rfl rfl hs42 rfl ?_
         refine ql_r (r_pickF rfl hs42 rfl) rfl ?_
         refine ql_nil (to_k0 (fun _ _ h => h) (hK24 _ _ _ _ _ ?_))
         clear hK24
         refine wp_condF rfl ?_
         refine wp_skip' (to_k0 (fun _ _ h => h) (hK23 _ _ _ _ _ ?_))
         clear hK23
         refine wp_seq' fun K27 hK27 => ?_
         refine wp_reg ?_
         refine ol_r (r_move rfl) rfl ?_
         refine ol_r (r_move rfl) rfl ?_
         refine ol_ixr hlb rfl rfl sl24 (by omega) rfl fun x55 hx55 => ?_
         try simp only [Int.toNat_natCast] at hx55
         refine ol_r (r_ldw rfl (fun w1 hb1 hs1 hB1 => Rd.loads hlb ty9 hx55 hb1)) rfl ?_
         refine ol_bs1 57 rfl rfl rw24 rfl rfl rfl fun a57 => ?_
         refine ol_append1 (id := 5) (id2 := 57) rfl rfl rfl rfl rfl rw24 (by omega) rfl fun a58 c58 => ?_
         first
           | (change _ at hx33
              obtain ⟨la', ela⟩ : ∃ l, l = la.drop 1 := ⟨_, rfl⟩
              obtain ⟨lb', elb⟩ : ∃ l, l = lb := ⟨_, rfl⟩
              obtain ⟨out', eo⟩ : ∃ l, l = out ++ [x33] := ⟨_, rfl⟩)
           | (change _ at hl52
              obtain ⟨la', ela⟩ : ∃ l, l = la.drop 1 := ⟨_, rfl⟩
              obtain ⟨lb', elb⟩ : ∃ l, l = lb.drop 1 := ⟨_, rfl⟩
              obtain ⟨out', eo⟩ : ∃ l, l = out ++ [x55] := ⟨_, rfl⟩)
           | (change _ at hx55
              obtain ⟨la', ela⟩ : ∃ l, l = la := ⟨_, rfl⟩
              obtain ⟨lb', elb⟩ : ∃ l, l = lb.drop 1 := ⟨_, rfl⟩
              obtain ⟨out', eo⟩ : ∃ l, l = out ++ [x55] := ⟨_, rfl⟩)
           | skip
         refine ol_r (r_assign rfl) rfl ?_
         refine ol_nil (to_k0 (fun _ _ h => h) (hK27 _ _ _ _ _ ?_))
         clear hK27
         refine wp_reg ?_
         refine ol_r (r_move rfl) rfl ?_
         refine ol_slr hlb rfl rfl rfl sl24 (by simp only [Option.getD_some, Option.getD_none]; omega) rfl fun a60 c60 hl60 => ?_
         try simp only [Option.getD_some, Option.getD_none] at hl60 ⊢
         refine ol_r (r_assign rfl) rfl ?_
         refine ol_nil (to_k0 (fun _ _ h => h) (hK4 (((_, _, _, la'), (_, _, _, lb'), _, _, _, out')) _ _ ?_ ?_ (sub_cons rfl (sub_cons rfl (sub_cons rfl sub_nil))) (sub_cons rfl sub_nil) (by exact (subH_row rfl (by first | (dsimp only; rw [eo, encStr_snoc]; rfl; done) | (rw [eo, encStr_snoc]; rfl; done) | (dsimp only; done)) subH_nil)) subH_nil))
         ·try dsimp only
          first
            | (exfalso; omega)
            | (change _ at hx33
               rw [ela, elb, eo]
               refine ⟨rd_tailE hl38 hna, hlb, ?_, by simp [hko], by omega⟩
               have hq : lb = [] ∨ ∃ y, lb[0]? = some y ∧ sLt x33 y = true := by
                 first
                   | exact .inl (List.eq_nil_of_length_eq_zero (by omega))
                   | (obtain rfl := Option.some.inj (hx23.symm.trans hx33)
                      exact .inr ⟨_, hx26, hc30⟩)
               rw [hP, tag_left hx33 hq, List.append_assoc])
            | (change _ at hl52
               rw [ela, elb, eo]
               refine ⟨rd_tailE hl52 hna, rd_tailE hl60 hnb, ?_, by simp [hko], by omega⟩
               obtain rfl := Option.some.inj (hx23.symm.trans hx44)
               obtain rfl := Option.some.inj (hx26.symm.trans hx47)
               obtain rfl := Option.some.inj (hx26.symm.trans hx55)
               rw [hP, tag_both hx44 hx47 (by rw [hc30]; simp) hc50, List.append_assoc])
            | (change _ at hx55
               rw [ela, elb, eo]
               refine ⟨hla, rd_tailE hl60 hnb, ?_, by simp [hko], by omega⟩
               have hq : la = [] ∨ ∃ x, la[0]? = some x ∧ ¬sLt x x55 = true ∧ ¬sEq x x55 = true := by
                 first
                   | exact .inl (List.eq_nil_of_length_eq_zero (by omega))
                   | (obtain rfl := Option.some.inj (hx23.symm.trans hx44)
                      obtain rfl := Option.some.inj (hx26.symm.trans hx47)
                      obtain rfl := Option.some.inj (hx26.symm.trans hx55)
                      exact .inr ⟨_, hx44, by rw [hc30]; simp, by rw [hc50]; simp⟩)
               rw [hP, tag_right hx55 hq, List.append_assoc])
         ·try dsimp only
          omega
      ·have phs21 := hs21; try simp only [decide_eq_true_eq, decide_eq_false_iff_not, Bool.not_eq_true', Bool.not_eq_false', Bool.not_true, Bool.not_false] at phs21
       refine ql_s rfl rfl hs21 rfl ?_
       refine ql_s rfl rfl hs21 rfl ?_
       refine ql_s rfl rfl hs21 rfl ?_
       refine ql_s rfl rfl hs21 rfl ?_
       refine ql_s rfl rfl hs21 rfl ?_
       refine ql_s rfl rfl hs21 rfl ?_
       refine ql_s rfl rfl hs21 rfl ?_
       refine ql_g rfl rfl hs17 ?_
       refine ql_r (r_pickF rfl hs21 rfl) rfl ?_
       refine ql_r (r_pickF rfl hs17 rfl) rfl ?_
       refine ql_nil (to_k0 (fun _ _ h => h) (hK20 _ _ _ _ _ ?_))
       clear hK20
       refine wp_condF rfl ?_
       refine wp_seq' fun K28 hK28 => ?_
       refine wp_seq' fun K29 hK29 => ?_
       refine wp_regq (by kernel_rfl) (by kernel_rfl) ?_
       refine ql_r (r_move rfl) rfl ?_
       refine ql_r (r_len rfl sl24) rfl ?_
       refine ql_r (r_gtr rfl rfl) rfl ?_
       refine ql_r (r_move rfl) rfl ?_
       refine ql_split (d := 42) rfl (fun hs42 => ?_) (fun hs42 => ?_)
       ·have phs42 := hs42; try simp only [decide_eq_true_eq, decide_eq_false_iff_not, Bool.not_eq_true', Bool.not_eq_false', Bool.not_true, Bool.not_false] at phs42
        refine ql_g rfl rfl hs42 ?_
        refine ql_r (r_move rfl) rfl ?_
        refine ql_g rfl rfl hs42 ?_
        refine ql_ixr hla rfl rfl sl24 (by omega) rfl fun x44 hx44 => ?_
        try simp only [Int.toNat_natCast] at hx44
        refine ql_g rfl rfl hs42 ?_
        refine ql_r (r_ldw rfl (fun w1 hb1 hs1 hB1 => Rd.loads hla ty9 hx44 hb1)) rfl ?_
        refine ql_g rfl rfl hs42 ?_
        refine ql_r (r_move rfl) rfl ?_
        refine ql_g rfl rfl hs42 ?_
        refine ql_ixr hlb rfl rfl sl24 (by omega) rfl fun x47 hx47 => ?_
        try simp only [Int.toNat_natCast] at hx47
        refine ql_g rfl rfl hs42 ?_
        refine ql_r (r_ldw rfl (fun w1 hb1 hs1 hB1 => Rd.loads hlb ty9 hx47 hb1)) rfl ?_
        refine ql_g rfl rfl hs42 ?_
        refine ql_r (r_seql rfl rfl) rfl ?_
        refine ql_r (r_pickT rfl hs42 rfl) rfl ?_
        refine ql_nil (to_k0 (fun _ _ h => h) (hK29 _ _ _ _ _ ?_))
        clear hK29
        first | refine wp_condD rfl (fun hc50 => ?_) (fun hc50 => ?_) | refine wp_condN rfl (fun hc50 => ?_) (fun hc50 => ?_) | refine wp_condNB rfl (fun hc50 => ?_) (fun hc50 => ?_) | refine wp_cond' rfl (fun hc50 => ?_) (fun hc50 => ?_)
        ·refine wp_reg ?_
         refine ol_r (r_move rfl) rfl ?_
         refine ol_slr hla rfl rfl rfl sl24 (by simp only [Option.getD_some, Option.getD_none]; omega) rfl fun a52 c52 hl52 => ?_
         try simp only [Option.getD_some, Option.getD_none] at hl52 ⊢
         refine ol_r (r_assign rfl) rfl ?_
         refine ol_nil (to_k0 (fun _ _ h => h) (hK28 _ _ _ _ _ ?_))
         clear hK28
         refine wp_seq' fun K30 hK30 => ?_
         refine wp_reg ?_
         refine ol_r (r_move rfl) rfl ?_
         refine ol_r (r_move rfl) rfl ?_
         refine ol_ixr hlb rfl rfl sl24 (by omega) rfl fun x55 hx55 => ?_
         try simp only [Int.toNat_natCast] at hx55
         refine ol_r (r_ldw rfl (fun w1 hb1 hs1 hB1 => Rd.loads hlb ty9 hx55 hb1)) rfl ?_
         refine ol_bs1 57 rfl rfl rw24 rfl rfl rfl fun a57 => ?_
         refine ol_append1 (id := 5) (id2 := 57) rfl rfl rfl rfl rfl rw24 (by omega) rfl fun a58 c58 => ?_
         first
           | (change _ at hx33
              obtain ⟨la', ela⟩ : ∃ l, l = la.drop 1 := ⟨_, rfl⟩
              obtain ⟨lb', elb⟩ : ∃ l, l = lb := ⟨_, rfl⟩
              obtain ⟨out', eo⟩ : ∃ l, l = out ++ [x33] := ⟨_, rfl⟩)
           | (change _ at hl52
              obtain ⟨la', ela⟩ : ∃ l, l = la.drop 1 := ⟨_, rfl⟩
              obtain ⟨lb', elb⟩ : ∃ l, l = lb.drop 1 := ⟨_, rfl⟩
              obtain ⟨out', eo⟩ : ∃ l, l = out ++ [x55] := ⟨_, rfl⟩)
           | (change _ at hx55
              obtain ⟨la', ela⟩ : ∃ l, l = la := ⟨_, rfl⟩
              obtain ⟨lb', elb⟩ : ∃ l, l = lb.drop 1 := ⟨_, rfl⟩
              obtain ⟨out', eo⟩ : ∃ l, l = out ++ [x55] := ⟨_, rfl⟩)
           | skip
         refine ol_r (r_assign rfl) rfl ?_
         refine ol_nil (to_k0 (fun _ _ h => h) (hK30 _ _ _ _ _ ?_))
         clear hK30
         refine wp_reg ?_
         refine ol_r (r_move rfl) rfl ?_
         refine ol_slr hlb rfl rfl rfl sl24 (by simp only [Option.getD_some, Option.getD_none]; omega) rfl fun a60 c60 hl60 => ?_
         try simp only [Option.getD_some, Option.getD_none] at hl60 ⊢
         refine ol_r (r_assign rfl) rfl ?_
         refine ol_nil (to_k0 (fun _ _ h => h) (hK4 (((_, _, _, la'), (_, _, _, lb'), _, _, _, out')) _ _ ?_ ?_ (sub_cons rfl (sub_cons rfl (sub_cons rfl sub_nil))) (sub_cons rfl sub_nil) (by exact (subH_row rfl (by first | (dsimp only; rw [eo, encStr_snoc]; rfl; done) | (rw [eo, encStr_snoc]; rfl; done) | (dsimp only; done)) subH_nil)) subH_nil))
         ·try dsimp only
          first
            | (exfalso; omega)
            | (change _ at hx33
               rw [ela, elb, eo]
               refine ⟨rd_tailE hl38 hna, hlb, ?_, by simp [hko], by omega⟩
               have hq : lb = [] ∨ ∃ y, lb[0]? = some y ∧ sLt x33 y = true := by
                 first
                   | exact .inl (List.eq_nil_of_length_eq_zero (by omega))
                   | (obtain rfl := Option.some.inj (hx23.symm.trans hx33)
                      exact .inr ⟨_, hx26, hc30⟩)
               rw [hP, tag_left hx33 hq, List.append_assoc])
            | (change _ at hl52
               rw [ela, elb, eo]
               refine ⟨rd_tailE hl52 hna, rd_tailE hl60 hnb, ?_, by simp [hko], by omega⟩
               obtain rfl := Option.some.inj (hx23.symm.trans hx44)
               obtain rfl := Option.some.inj (hx26.symm.trans hx47)
               obtain rfl := Option.some.inj (hx26.symm.trans hx55)
               rw [hP, tag_both hx44 hx47 (by rw [hc30]; simp) hc50, List.append_assoc])
            | (change _ at hx55
               rw [ela, elb, eo]
               refine ⟨hla, rd_tailE hl60 hnb, ?_, by simp [hko], by omega⟩
               have hq : la = [] ∨ ∃ x, la[0]? = some x ∧ ¬sLt x x55 = true ∧ ¬sEq x x55 = true := by
                 first
                   | exact .inl (List.eq_nil_of_length_eq_zero (by omega))
                   | (obtain rfl := Option.some.inj (hx23.symm.trans hx44)
                      obtain rfl := Option.some.inj (hx26.symm.trans hx47)
                      obtain rfl := Option.some.inj (hx26.symm.trans hx55)
                      exact .inr ⟨_, hx44, by rw [hc30]; simp, by rw [hc50]; simp⟩)
               rw [hP, tag_right hx55 hq, List.append_assoc])
         ·try dsimp only
          omega
        ·refine wp_skip' (to_k0 (fun _ _ h => h) (hK28 _ _ _ _ _ ?_))
         clear hK28
         refine wp_seq' fun K31 hK31 => ?_
         refine wp_reg ?_
         refine ol_r (r_move rfl) rfl ?_
         refine ol_r (r_move rfl) rfl ?_
         refine ol_ixr hlb rfl rfl sl24 (by omega) rfl fun x55 hx55 => ?_
         try simp only [Int.toNat_natCast] at hx55
         refine ol_r (r_ldw rfl (fun w1 hb1 hs1 hB1 => Rd.loads hlb ty9 hx55 hb1)) rfl ?_
         refine ol_bs1 57 rfl rfl rw24 rfl rfl rfl fun a57 => ?_
         refine ol_append1 (id := 5) (id2 := 57) rfl rfl rfl rfl rfl rw24 (by omega) rfl fun a58 c58 => ?_
         first
           | (change _ at hx33
              obtain ⟨la', ela⟩ : ∃ l, l = la.drop 1 := ⟨_, rfl⟩
              obtain ⟨lb', elb⟩ : ∃ l, l = lb := ⟨_, rfl⟩
              obtain ⟨out', eo⟩ : ∃ l, l = out ++ [x33] := ⟨_, rfl⟩)
           | (change _ at hl52
              obtain ⟨la', ela⟩ : ∃ l, l = la.drop 1 := ⟨_, rfl⟩
              obtain ⟨lb', elb⟩ : ∃ l, l = lb.drop 1 := ⟨_, rfl⟩
              obtain ⟨out', eo⟩ : ∃ l, l = out ++ [x55] := ⟨_, rfl⟩)
           | (change _ at hx55
              obtain ⟨la', ela⟩ : ∃ l, l = la := ⟨_, rfl⟩
              obtain ⟨lb', elb⟩ : ∃ l, l = lb.drop 1 := ⟨_, rfl⟩
              obtain ⟨out', eo⟩ : ∃ l, l = out ++ [x55] := ⟨_, rfl⟩)
           | skip
         refine ol_r (r_assign rfl) rfl ?_
         refine ol_nil (to_k0 (fun _ _ h => h) (hK31 _ _ _ _ _ ?_))
         clear hK31
         refine wp_reg ?_
         refine ol_r (r_move rfl) rfl ?_
         refine ol_slr hlb rfl rfl rfl sl24 (by simp only [Option.getD_some, Option.getD_none]; omega) rfl fun a60 c60 hl60 => ?_
         try simp only [Option.getD_some, Option.getD_none] at hl60 ⊢
         refine ol_r (r_assign rfl) rfl ?_
         refine ol_nil (to_k0 (fun _ _ h => h) (hK4 (((_, _, _, la'), (_, _, _, lb'), _, _, _, out')) _ _ ?_ ?_ (sub_cons rfl (sub_cons rfl (sub_cons rfl sub_nil))) (sub_cons rfl sub_nil) (by exact (subH_row rfl (by first | (dsimp only; rw [eo, encStr_snoc]; rfl; done) | (rw [eo, encStr_snoc]; rfl; done) | (dsimp only; done)) subH_nil)) subH_nil))
         ·try dsimp only
          first
            | (exfalso; omega)
            | (change _ at hx33
               rw [ela, elb, eo]
               refine ⟨rd_tailE hl38 hna, hlb, ?_, by simp [hko], by omega⟩
               have hq : lb = [] ∨ ∃ y, lb[0]? = some y ∧ sLt x33 y = true := by
                 first
                   | exact .inl (List.eq_nil_of_length_eq_zero (by omega))
                   | (obtain rfl := Option.some.inj (hx23.symm.trans hx33)
                      exact .inr ⟨_, hx26, hc30⟩)
               rw [hP, tag_left hx33 hq, List.append_assoc])
            | (change _ at hl52
               rw [ela, elb, eo]
               refine ⟨rd_tailE hl52 hna, rd_tailE hl60 hnb, ?_, by simp [hko], by omega⟩
               obtain rfl := Option.some.inj (hx23.symm.trans hx44)
               obtain rfl := Option.some.inj (hx26.symm.trans hx47)
               obtain rfl := Option.some.inj (hx26.symm.trans hx55)
               rw [hP, tag_both hx44 hx47 (by rw [hc30]; simp) hc50, List.append_assoc])
            | (change _ at hx55
               rw [ela, elb, eo]
               refine ⟨hla, rd_tailE hl60 hnb, ?_, by simp [hko], by omega⟩
               have hq : la = [] ∨ ∃ x, la[0]? = some x ∧ ¬sLt x x55 = true ∧ ¬sEq x x55 = true := by
                 first
                   | exact .inl (List.eq_nil_of_length_eq_zero (by omega))
                   | (obtain rfl := Option.some.inj (hx23.symm.trans hx44)
                      obtain rfl := Option.some.inj (hx26.symm.trans hx47)
                      obtain rfl := Option.some.inj (hx26.symm.trans hx55)
                      exact .inr ⟨_, hx44, by rw [hc30]; simp, by rw [hc50]; simp⟩)
               rw [hP, tag_right hx55 hq, List.append_assoc])
         ·try dsimp only
          omega
       ·have phs42 := hs42; try simp only [decide_eq_true_eq, decide_eq_false_iff_not, Bool.not_eq_true', Bool.not_eq_false', Bool.not_true, Bool.not_false] at phs42
        refine ql_s rfl rfl hs42 rfl ?_
        refine ql_s rfl rfl hs42 rfl ?_
        refine ql_s rfl rfl hs42 rfl ?_
        refine ql_s rfl rfl hs42 rfl ?_
        refine ql_s rfl rfl hs42 rfl ?_
        refine ql_s rfl rfl hs42 rfl ?_
        refine ql_s rfl rfl hs42 rfl ?_
        refine ql_r (r_pickF rfl hs42 rfl) rfl ?_
        refine ql_nil (to_k0 (fun _ _ h => h) (hK29 _ _ _ _ _ ?_))
        clear hK29
        refine wp_condF rfl ?_
        refine wp_skip' (to_k0 (fun _ _ h => h) (hK28 _ _ _ _ _ ?_))
        clear hK28
        refine wp_seq' fun K32 hK32 => ?_
        refine wp_reg ?_
        refine ol_r (r_move rfl) rfl ?_
        refine ol_r (r_move rfl) rfl ?_
        refine ol_ixr hlb rfl rfl sl24 (by omega) rfl fun x55 hx55 => ?_
        try simp only [Int.toNat_natCast] at hx55
        refine ol_r (r_ldw rfl (fun w1 hb1 hs1 hB1 => Rd.loads hlb ty9 hx55 hb1)) rfl ?_
        refine ol_bs1 57 rfl rfl rw24 rfl rfl rfl fun a57 => ?_
        refine ol_append1 (id := 5) (id2 := 57) rfl rfl rfl rfl rfl rw24 (by omega) rfl fun a58 c58 => ?_
        first
          | (change _ at hx33
             obtain ⟨la', ela⟩ : ∃ l, l = la.drop 1 := ⟨_, rfl⟩
             obtain ⟨lb', elb⟩ : ∃ l, l = lb := ⟨_, rfl⟩
             obtain ⟨out', eo⟩ : ∃ l, l = out ++ [x33] := ⟨_, rfl⟩)
          | (change _ at hl52
             obtain ⟨la', ela⟩ : ∃ l, l = la.drop 1 := ⟨_, rfl⟩
             obtain ⟨lb', elb⟩ : ∃ l, l = lb.drop 1 := ⟨_, rfl⟩
             obtain ⟨out', eo⟩ : ∃ l, l = out ++ [x55] := ⟨_, rfl⟩)
          | (change _ at hx55
             obtain ⟨la', ela⟩ : ∃ l, l = la := ⟨_, rfl⟩
             obtain ⟨lb', elb⟩ : ∃ l, l = lb.drop 1 := ⟨_, rfl⟩
             obtain ⟨out', eo⟩ : ∃ l, l = out ++ [x55] := ⟨_, rfl⟩)
          | skip
        refine ol_r (r_assign rfl) rfl ?_
        refine ol_nil (to_k0 (fun _ _ h => h) (hK32 _ _ _ _ _ ?_))
        clear hK32
        refine wp_reg ?_
        refine ol_r (r_move rfl) rfl ?_
        refine ol_slr hlb rfl rfl rfl sl24 (by simp only [Option.getD_some, Option.getD_none]; omega) rfl fun a60 c60 hl60 => ?_
        try simp only [Option.getD_some, Option.getD_none] at hl60 ⊢
        refine ol_r (r_assign rfl) rfl ?_
        refine ol_nil (to_k0 (fun _ _ h => h) (hK4 (((_, _, _, la'), (_, _, _, lb'), _, _, _, out')) _ _ ?_ ?_ (sub_cons rfl (sub_cons rfl (sub_cons rfl sub_nil))) (sub_cons rfl sub_nil) (by exact (subH_row rfl (by first | (dsimp only; rw [eo, encStr_snoc]; rfl; done) | (rw [eo, encStr_snoc]; rfl; done) | (dsimp only; done)) subH_nil)) subH_nil))
        ·try dsimp only
         first
           | (exfalso; omega)
           | (change _ at hx33
              rw [ela, elb, eo]
              refine ⟨rd_tailE hl38 hna, hlb, ?_, by simp [hko], by omega⟩
              have hq : lb = [] ∨ ∃ y, lb[0]? = some y ∧ sLt x33 y = true := by
                first
                  | exact .inl (List.eq_nil_of_length_eq_zero (by omega))
                  | (obtain rfl := Option.some.inj (hx23.symm.trans hx33)
                     exact .inr ⟨_, hx26, hc30⟩)
              rw [hP, tag_left hx33 hq, List.append_assoc])
           | (change _ at hl52
              rw [ela, elb, eo]
              refine ⟨rd_tailE hl52 hna, rd_tailE hl60 hnb, ?_, by simp [hko], by omega⟩
              obtain rfl := Option.some.inj (hx23.symm.trans hx44)
              obtain rfl := Option.some.inj (hx26.symm.trans hx47)
              obtain rfl := Option.some.inj (hx26.symm.trans hx55)
              rw [hP, tag_both hx44 hx47 (by rw [hc30]; simp) hc50, List.append_assoc])
           | (change _ at hx55
              rw [ela, elb, eo]
              refine ⟨hla, rd_tailE hl60 hnb, ?_, by simp [hko], by omega⟩
              have hq : la = [] ∨ ∃ x, la[0]? = some x ∧ ¬sLt x x55 = true ∧ ¬sEq x x55 = true := by
                first
                  | exact .inl (List.eq_nil_of_length_eq_zero (by omega))
                  | (obtain rfl := Option.some.inj (hx23.symm.trans hx44)
                     obtain rfl := Option.some.inj (hx26.symm.trans hx47)
                     obtain rfl := Option.some.inj (hx26.symm.trans hx55)
                     exact .inr ⟨_, hx44, by rw [hc30]; simp, by rw [hc50]; simp⟩)
              rw [hP, tag_right hx55 hq, List.append_assoc])
        ·try dsimp only
         omega
    ·refine wp_exit' (to_k0 (fun _ _ h => h) (hK3 _ _ _ _ _ ?_))
     clear hK3
     refine wp_seq' fun K33 hK33 => ?_
     refine wp_reg ?_
     refine ol_r (r_move rfl) rfl ?_
     refine ol_r (r_assign rfl) rfl ?_
     refine ol_nil (to_k0 (fun _ _ h => h) (hK33 _ _ _ _ _ ?_))
     clear hK33
     refine hQ.ret (rvs1 (rv_t rfl)) (fun _ _ h => h) fun w hb hs hB hkd => ?_
     obtain rfl : la = [] := List.eq_nil_of_length_eq_zero (by omega)
     obtain rfl : lb = [] := List.eq_nil_of_length_eq_zero (by omega)
     rw [tagR_nil, List.append_nil] at hP
     refine ⟨oa, ko, oc, rfl, ?_⟩
     have h7 := hs.ok 5 _ rfl
     rw [← hP] at h7
     exact ⟨hb, h7⟩
end Go.Proofs.Ytogcclagmobkiaa
