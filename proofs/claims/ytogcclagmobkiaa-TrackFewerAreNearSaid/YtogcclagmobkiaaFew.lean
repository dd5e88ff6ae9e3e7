/-
  Fewer samples: the errors; what is asked for.
-/
import Derived.Test.YtogcclagmobkiaaWhere
import Derived.Test.YtogcclagmobkiaaFew2M
import Derived.Test.YtogcclagmobkiaaCheck
import Derived.Test.YtogcclagmobkiaaTabM
namespace Go.Proofs.Ytogcclagmobkiaa
open Go Go.RowKit Hx
set_option linter.unusedVariables false
set_option linter.unusedSimpArgs false
set_option maxRecDepth 8000
theorem trip_ok {st : Int} {ss : List SmpR} (h : SmpOk st ss) {i k j : Nat} {a b c : SmpR} (ha : ss[i]? = some a) (hb : ss[k]? = some b) (hc : ss[j]? = some c) (h1 : i < k) (h2 : k < j) : PairOk a c b.at_ := by
  have e1 := (at_up h ha (k - i) b (by rw [show i + (k - i) = k by omega]; exact hb)).2 (by omega)
  have e2 := (at_up h hb (j - k) c (by rw [show k + (j - k) = j by omega]; exact hc)).2 (by omega)
  exact pairOk h ha hc (by omega) (by omega) (by omega)
theorem amid_place {a c : SmpR} {t : Int} (h : PairOk a c t) : PlaceOk (amidV a c t) := by
  have h0 := h.lo
  exact ⟨btw_bd (L := 100000000) (by omega) (by omega) (by omega) h.px h.qx, btw_bd (L := 100000000) (by omega) (by omega) (by omega) h.py h.qy⟩
theorem errI_bd {st : Int} {ss : List SmpR} (h : SmpOk st ss) {i k j : Nat} (h1 : i < k) (h2 : k < j) (h3 : j < ss.length) : 0 ≤ errI ss i k j ∧ errI ss i k j ≤ 80000000000000000 := by
  have ha : ss[i]? = some (ss[i]'(by omega)) := List.getElem?_eq_getElem _
  have hb : ss[k]? = some (ss[k]'(by omega)) := List.getElem?_eq_getElem _
  have hc : ss[j]? = some (ss[j]'(by omega)) := List.getElem?_eq_getElem _
  rw [errI_eq ha hb hc]
  exact sqD_bd (h.place (List.mem_of_getElem? hb)) (amid_place (trip_ok h ha hb hc h1 h2))
theorem track_failing (a : Option Addr) (n c : Nat) (ss : List SmpR) (st : Int) (i k j : Nat) (w : World) (hl : Rd encSmp w.heap.size w a n c ss) (hok : SmpOk st ss) (h1 : i < k) (h2 : k < j) (h3 : j < ss.length) :
    Calls Try.prog 58 #[.slice a n c, .int .i64 i, .int .i64 k, .int .i64 j] w fun e w' => e = .returned (.int .i64 (errI ss i k j)) ∧ Below w.heap.size w w' := by
  have hn := hl.len
  refine enterQ (N := 28) (C := fun _ => True) (H := []) (B := w.heap.size) (args := [_, _, _, _]) Try.func58 rfl rfl rfl (Nat.le_refl _) (Sat.nil _ _) fun Q hQ => ?_
  refine wp_seq' fun K1 hK1 => ?_
  refine wp_reg ?_
  refine ol_r (r_assign rfl) rfl ?_
  refine ol_nil (to_k0 (fun _ _ h => h) (hK1 _ _ _ _ _ ?_))
  clear hK1
  refine wp_seq' fun K2 hK2 => ?_
  refine wp_regq (by kernel_rfl) (by kernel_rfl) ?_
  refine ql_r (r_move rfl) rfl ?_
  refine ql_r (r_move rfl) rfl ?_
  refine ql_ixr hl rfl rfl sl22 (by omega) rfl fun x11 hx11 => ?_
  try simp only [Int.toNat_natCast] at hx11
  refine ql_r (r_ldw rfl (fun w1 hb1 hs1 hB1 => Rd.loads hl ty28 hx11 hb1)) rfl ?_
  refine ql_r (r_move rfl) rfl ?_
  refine ql_r (r_move rfl) rfl ?_
  refine ql_ixr hl rfl rfl sl22 (by omega) rfl fun x15 hx15 => ?_
  try simp only [Int.toNat_natCast] at hx15
  refine ql_r (r_ldw rfl (fun w1 hb1 hs1 hB1 => Rd.loads hl ty28 hx15 hb1)) rfl ?_
  refine ql_r (r_move rfl) rfl ?_
  refine ql_r (r_move rfl) rfl ?_
  refine ql_ixr hl rfl rfl sl22 (by omega) rfl fun x19 hx19 => ?_
  try simp only [Int.toNat_natCast] at hx19
  refine ql_r (r_ldw rfl (fun w1 hb1 hs1 hB1 => Rd.loads hl ty28 hx19 hb1)) rfl ?_
  refine ql_r (r_move rfl) rfl ?_
  refine ql_r (r_move rfl) rfl ?_
  refine ql_ixr hl rfl rfl sl22 (by omega) rfl fun x23 hx23 => ?_
  try simp only [Int.toNat_natCast] at hx23
  obtain rfl : x11 = x23 := Option.some.inj (hx11.symm.trans hx23)
  have hT := trip_ok hok hx15 hx11 hx19 h1 h2
  refine ql_r (r_faw rfl (ix_some hl (by omega)) fl28_0) rfl ?_
  refine ql_r (r_ldw rfl (fun w1 hb1 hs1 hB1 => Rd.loadsF (o := 0) hl sc3 hx23 hb1 rfl)) rfl ?_
  refine ql_call rfl rfl cb96 rfl (fun w1 hb1 hs1 hB1 => track_amid _ _ _ _ hT) ?_
  refine ql_call rfl rfl cb108 rfl (fun w1 hb1 hs1 hB1 => track_squares _ _ _ (hok.place (List.mem_of_getElem? hx11)) (amid_place hT)) ?_
  refine ql_r (r_assign rfl) rfl ?_
  refine ql_nil (to_k0 (fun _ _ h => h) (hK2 _ _ _ _ _ ?_))
  clear hK2
  refine hQ.ret (rvs1 (rv_t rfl)) (fun _ _ h => h) fun w hb hs hB hkd => ?_
  exact ⟨by rw [errI_eq hx15 hx11 hx19], hb⟩
theorem ref3_fault (a : Option Addr) (n c : Nat) (ss : List SmpR) (st : Int) (i k j : Nat) (w : World) (hl : Rd encSmp w.heap.size w a n c ss) (hok : SmpOk st ss) (h1 : i < k) (h2 : k < j) (h3 : j < ss.length) :
    Calls Try.prog 109 #[.slice a n c, .int .i64 i, .int .i64 k, .int .i64 j] w fun e w' => e = .returned (.int .i64 (errI ss i k j)) ∧ Below w.heap.size w w' := by
  have hn := hl.len
  refine enterQ (N := 28) (C := fun _ => True) (H := []) (B := w.heap.size) (args := [_, _, _, _]) Try.func109 rfl rfl rfl (Nat.le_refl _) (Sat.nil _ _) fun Q hQ => ?_
  refine wp_seq' fun K1 hK1 => ?_
  refine wp_reg ?_
  refine ol_r (r_assign rfl) rfl ?_
  refine ol_nil (to_k0 (fun _ _ h => h) (hK1 _ _ _ _ _ ?_))
  clear hK1
  refine wp_seq' fun K2 hK2 => ?_
  refine wp_regq (by kernel_rfl) (by kernel_rfl) ?_
  refine ql_r (r_move rfl) rfl ?_
  refine ql_r (r_move rfl) rfl ?_
  refine ql_ixr hl rfl rfl sl22 (by omega) rfl fun x11 hx11 => ?_
  try simp only [Int.toNat_natCast] at hx11
  refine ql_r (r_ldw rfl (fun w1 hb1 hs1 hB1 => Rd.loads hl ty28 hx11 hb1)) rfl ?_
  refine ql_r (r_move rfl) rfl ?_
  refine ql_r (r_move rfl) rfl ?_
  refine ql_ixr hl rfl rfl sl22 (by omega) rfl fun x15 hx15 => ?_
  try simp only [Int.toNat_natCast] at hx15
  refine ql_r (r_ldw rfl (fun w1 hb1 hs1 hB1 => Rd.loads hl ty28 hx15 hb1)) rfl ?_
  refine ql_r (r_move rfl) rfl ?_
  refine ql_r (r_move rfl) rfl ?_
  refine ql_ixr hl rfl rfl sl22 (by omega) rfl fun x19 hx19 => ?_
  try simp only [Int.toNat_natCast] at hx19
  have hT := trip_ok hok hx11 hx19 hx15 h1 h2
  refine ql_r (r_faw rfl (ix_some hl (by omega)) fl28_0) rfl ?_
  refine ql_r (r_ldw rfl (fun w1 hb1 hs1 hB1 => Rd.loadsF (o := 0) hl sc3 hx19 hb1 rfl)) rfl ?_
  refine ql_call rfl rfl cb101 rfl (fun w1 hb1 hs1 hB1 => ref3_at _ _ _ _ hT) ?_
  refine ql_r (r_move rfl) rfl ?_
  refine ql_r (r_move rfl) rfl ?_
  refine ql_ixr hl rfl rfl sl22 (by omega) rfl fun x25 hx25 => ?_
  try simp only [Int.toNat_natCast] at hx25
  obtain rfl : x19 = x25 := Option.some.inj (hx19.symm.trans hx25)
  refine ql_r (r_ldw rfl (fun w1 hb1 hs1 hB1 => Rd.loads hl ty28 hx25 hb1)) rfl ?_
  refine ql_call rfl rfl cb125 rfl (fun w1 hb1 hs1 hB1 => ref3_apart _ _ _ (amid_place hT) (hok.place (List.mem_of_getElem? hx19))) ?_
  refine ql_r (r_assign rfl) rfl ?_
  refine ql_nil (to_k0 (fun _ _ h => h) (hK2 _ _ _ _ _ ?_))
  clear hK2
  refine hQ.ret (rvs1 (rv_t rfl)) (fun _ _ h => h) fun w hb hs hB hkd => ?_
  exact ⟨by rw [errI_eq hx11 hx19 hx15, sqD_comm], hb⟩
theorem track_checkFewer (A : ActV) (most lim : Int) (w : World) (hA : A.Ok w.heap.size w) :
    Calls Try.prog 56 #[.agg #[.string A.name, .int .i64 A.sport, .int .i64 A.start, .slice A.sa A.sn A.sc, .slice A.la A.ln A.lc, .slice A.ta A.tn A.tc], .int .i64 most, .int .i64 lim] w fun e w' => e = .returned (.int .i64 (fewErr A.d most lim)) ∧ Below w.heap.size w w' := by
  have hsn := hA.s.len
  refine enterQ (N := 23) (C := fun _ => True) (H := []) (B := w.heap.size) (args := [_, _, _]) Try.func56 rfl rfl rfl (Nat.le_refl _) (Sat.nil _ _) fun Q hQ => ?_
  refine wp_seq' fun K1 hK1 => ?_
  refine wp_reg ?_
  refine ol_box 3 rfl rfl rfl fun b3 => ?_
  refine ol_r (r_assign rfl) rfl ?_
  refine ol_nil (to_k0 (fun _ _ h => h) (hK1 _ _ _ _ _ ?_))
  clear hK1
  refine wp_seq' fun K2 hK2 => ?_
  refine wp_seq' fun K3 hK3 => ?_
  refine wp_reg ?_
  refine ol_r (r_lda (id := 3) (n := 6) rfl rfl rfl ag26) rfl ?_
  refine ol_call rfl rfl cb40 rfl (fun w1 hb1 hs1 hB1 => Calls.mono (record_Check A _ (hA.at hb1 hB1)) ?_)
  rintro e w2 ⟨rfl, hb2⟩
  refine After.below rfl hb1 hs1 hB1 hb2 ?_
  clear hb2 hB1 hs1 hb1 w2 w1
  refine ol_r (r_assign rfl) rfl ?_
  refine ol_nil (to_k0 (fun _ _ h => h) (hK3 _ _ _ _ _ ?_))
  clear hK3
  refine wp_seq' fun K4 hK4 => ?_
  refine wp_reg ?_
  refine ol_r (r_move rfl) rfl ?_
  refine ol_r (r_neq rfl rfl) rfl ?_
  refine ol_nil (to_k0 (fun _ _ h => h) (hK4 _ _ _ _ _ ?_))
  clear hK4
  first | refine wp_condD rfl (fun hc11 => ?_) (fun hc11 => ?_) | refine wp_condN rfl (fun hc11 => ?_) (fun hc11 => ?_) | refine wp_condNB rfl (fun hc11 => ?_) (fun hc11 => ?_) | refine wp_cond' rfl (fun hc11 => ?_) (fun hc11 => ?_)
  ·refine wp_seq' fun K5 hK5 => ?_
   refine wp_reg ?_
   refine ol_r (r_move rfl) rfl ?_
   refine ol_r (r_assign rfl) rfl ?_
   refine ol_nil (to_k0 (fun _ _ h => h) (hK5 _ _ _ _ _ ?_))
   clear hK5
   refine hQ.ret (rvs1 (rv_t rfl)) (fun _ _ h => h) fun w hb hs hB hkd => ?_
   exact ⟨by rw [fewErr_e hc11], hb⟩
  ·refine wp_skip' (to_k0 (fun _ _ h => h) (hK2 _ _ _ _ _ ?_))
   clear hK2
   refine wp_seq' fun K6 hK6 => ?_
   refine wp_block' ?_
   refine wp_seq' fun K7 hK7 => ?_
   refine wp_reg ?_
   refine ol_r (r_move rfl) rfl ?_
   refine ol_call rfl rfl cb41 rfl (fun w1 hb1 hs1 hB1 => Calls.mono (track_in _ _ _ _) ?_)
   rintro e w2 ⟨rfl, hb2⟩
   refine After.below rfl hb1 hs1 hB1 hb2 ?_
   clear hb2 hB1 hs1 hb1 w2 w1
   refine ol_r (r_not rfl) rfl ?_
   refine ol_r (r_assign rfl) rfl ?_
   refine ol_nil (to_k0 (fun _ _ h => h) (hK7 _ _ _ _ _ ?_))
   clear hK7
   first | refine wp_condD rfl (fun hc13 => ?_) (fun hc13 => ?_) | refine wp_condN rfl (fun hc13 => ?_) (fun hc13 => ?_) | refine wp_condNB rfl (fun hc13 => ?_) (fun hc13 => ?_) | refine wp_cond' rfl (fun hc13 => ?_) (fun hc13 => ?_)
   ·refine wp_seq' fun K8 hK8 => ?_
    refine wp_reg ?_
    refine ol_r (r_assign rfl) rfl ?_
    refine ol_nil (to_k0 (fun _ _ h => h) (hK8 _ _ _ _ _ ?_))
    clear hK8
    refine hQ.ret (rvs1 (rv_t rfl)) (fun _ _ h => h) fun w hb hs hB hkd => ?_
    exact ⟨by rw [fewErr_9 (Decidable.not_not.1 hc11) (fun h => by have := inB_iff.2 h; rw [this] at hc13; cases hc13)], hb⟩
   ·refine wp_seq' fun K9 hK9 => ?_
    refine wp_reg ?_
    refine ol_r (r_fa (o' := 3) rfl fl26_3 rfl) rfl ?_
    refine ol_r (r_ld (id := 3) rfl rfl rfl sc22) rfl ?_
    refine ol_r (r_len rfl sl22) rfl ?_
    refine ol_r (r_move rfl) rfl ?_
    refine ol_r (r_gtr rfl rfl) rfl ?_
    refine ol_r (r_assign rfl) rfl ?_
    refine ol_nil (to_k0 (fun _ _ h => h) (hK9 _ _ _ _ _ ?_))
    clear hK9
    first | refine wp_condD rfl (fun hc17 => ?_) (fun hc17 => ?_) | refine wp_condN rfl (fun hc17 => ?_) (fun hc17 => ?_) | refine wp_condNB rfl (fun hc17 => ?_) (fun hc17 => ?_) | refine wp_cond' rfl (fun hc17 => ?_) (fun hc17 => ?_)
    ·refine wp_seq' fun K10 hK10 => ?_
     refine wp_reg ?_
     refine ol_r (r_assign rfl) rfl ?_
     refine ol_nil (to_k0 (fun _ _ h => h) (hK10 _ _ _ _ _ ?_))
     clear hK10
     refine hQ.ret (rvs1 (rv_t rfl)) (fun _ _ h => h) fun w hb hs hB hkd => ?_
     exact ⟨by rw [fewErr_3 (Decidable.not_not.1 hc11) (inB_iff.1 hc13) (by show lim < (A.ss.length : Int); omega)], hb⟩
    ·refine wp_skip' (to_k0 (fun _ _ h => h) (hK6 _ _ _ _ _ ?_))
     clear hK6
     refine wp_seq' fun K11 hK11 => ?_
     refine wp_reg ?_
     refine ol_r (r_assign rfl) rfl ?_
     refine ol_nil (to_k0 (fun _ _ h => h) (hK11 _ _ _ _ _ ?_))
     clear hK11
     refine hQ.ret (rvs1 (rv_t rfl)) (fun _ _ h => h) fun w hb hs hB hkd => ?_
     exact ⟨by rw [fewErr_ok (a := A.d) (Decidable.not_not.1 hc11) (inB_iff.1 hc13) (by show ¬lim < (A.ss.length : Int); omega)], hb⟩
end Go.Proofs.Ytogcclagmobkiaa
