/-
  Idle and Still: the reference.
-/
import Derived.Test.YtogcclagmobkiaaRuns
import Derived.Test.YtogcclagmobkiaaCheck
import Derived.Test.YtogcclagmobkiaaPart2
namespace Go.Proofs.Ytogcclagmobkiaa
open Go Go.RowKit Hx
set_option linter.unusedVariables false
set_option linter.unusedSimpArgs false
set_option maxRecDepth 8000
def encBo : Enc Bool := { size := 1, cells := fun x => [.bool x], val := fun x => .bool x, len := fun _ => rfl, ones := fun _ u h => by simp at h; subst h; rfl, pos := by decide, vc := fun _ => rfl }
theorem ty4 : Ty Try.prog 4 encBo := .inl ⟨sc4, fun _ => rfl⟩
def mkL (m : Nat → Bool) (n : Nat) : List Bool := (List.range n).map m
theorem mkL_len (m : Nat → Bool) (n : Nat) : (mkL m n).length = n := by simp [mkL]
theorem mkL_get {m : Nat → Bool} {n i : Nat} {b : Bool} (h : (mkL m n)[i]? = some b) : b = m i := by
  unfold mkL at h
  obtain ⟨hi, rfl⟩ := List.getElem?_eq_some_iff.1 h
  simp
theorem mkL_succ (m : Nat → Bool) (n : Nat) : encBo.enc (mkL m (n + 1)) = encBo.enc (mkL m n) ++ [.bool (m n)] := by
  unfold mkL
  rw [List.range_succ, List.map_append, Enc.enc_append]; rfl
theorem take_row {ss : List SmpR} {m : Nat → Bool} {l : Int} {i j : Nat} {x : SpanR} (h : takeS ss m l j = takeS ss m l i ++ [x]) : encSpan.enc (takeS ss m l j) = encSpan.enc (takeS ss m l i) ++ encSpan.cells x := by
  rw [h, Enc.enc_append]; simp [Enc.enc]
theorem ref3_rows (A : ActV) (m : Nat → Bool) (ma : Option Addr) (mn mc : Nat) (least : Int) (w : World) (hA : A.Ok w.heap.size w) (hok : SmpOk A.start A.ss) (hM : Rd encBo w.heap.size w ma mn mc (mkL m (A.ss.length - 1))) :
    Calls Try.prog 72 #[.agg #[.string A.name, .int .i64 A.sport, .int .i64 A.start, .slice A.sa A.sn A.sc, .slice A.la A.ln A.lc, .slice A.ta A.tn A.tc], .slice ma mn mc, .int .i64 least] w fun e w' => OutP w.heap.size w' (rowsR A.ss m least) e ∧ Below w.heap.size w w' := by
  have hmn : mn = A.ss.length - 1 := by rw [← hM.len, mkL_len]
  have hsn := hA.s.len
  have hll := hok.len
  refine enterQ (N := 65) (C := fun _ => True) (H := []) (B := w.heap.size) (args := [_, _, _]) Try.func72 rfl rfl rfl (Nat.le_refl _) (Sat.nil _ _) fun Q hQ => ?_
  refine wp_seq' fun K1 hK1 => ?_
  refine wp_reg ?_
  refine ol_box 3 rfl rfl rfl fun b3 => ?_
  refine ol_r (r_assign rfl) rfl ?_
  refine ol_nil (to_k0 (fun _ _ h => h) (hK1 _ _ _ _ _ ?_))
  clear hK1
  refine wp_seq' fun K2 hK2 => ?_
  refine wp_reg ?_
  refine ol_nilrow 7 54 2 ?_
  refine ol_r (r_assign rfl) rfl ?_
  refine ol_nil (to_k0 (fun _ _ h => h) (hK2 _ _ _ _ _ ?_))
  clear hK2
  refine wp_seq' fun K3 hK3 => ?_
  refine wp_seq' fun K4 hK4 => ?_
  refine wp_reg ?_
  refine ol_r (r_assign rfl) rfl ?_
  refine ol_nil (to_k0 (fun _ _ h => h) (hK4 _ _ _ _ _ ?_))
  clear hK4
  refine wp_block' ?_
  apply wp_loopM (σ := Nat × Option Addr × Nat × Nat) (fun s => s.1 ≤ mn ∧ s.2.2.1 = (takeS A.ss m least s.1).length ∧ (s.1 < mn → m s.1 = true → ∀ p, (rowsK m s.1)[(rowsK m s.1).length - 1]? = some p → p.2 ≠ s.1)) (fun s => [(8, .int .i64 s.1), (7, .slice s.2.1 s.2.2.1 s.2.2.2)]) [(1, _), (2, _), (3, _), (6, _)] (fun s => [(7, .row s.2.1 s.2.2.1 s.2.2.2 (encSpan.enc (takeS A.ss m least s.1)) 54 2)]) [(3, _)] (fun s => mn - s.1) ((0, none, 0, 0))
  ·try dsimp only
   exact ⟨Nat.zero_le _, rfl, fun _ _ p hp => by simp [rowsK] at hp⟩
  ·exact (sub_cons rfl (sub_cons rfl sub_nil))
  ·exact (sub_cons rfl (sub_cons rfl (sub_cons rfl (sub_cons rfl sub_nil))))
  ·exact (subH_row rfl (by first | (dsimp only; rfl; done) | (rfl; done) | (dsimp only; done)) subH_nil)
  ·exact (subH_same rfl subH_nil)
  ·rintro ⟨i, na, nn, nc⟩ ⟨hi, hnn, hcl⟩
   dsimp only at hi hnn hcl ⊢
   have htl := takeS_len A.ss m least i
   intro K5 hK5
   refine wp_seq' fun K6 hK6 => ?_
   refine wp_seq' fun K7 hK7 => ?_
   refine wp_reg ?_
   refine ol_r (r_move rfl) rfl ?_
   refine ol_r (r_move rfl) rfl ?_
   refine ol_r (r_len rfl sl77) rfl ?_
   refine ol_r (r_lss rfl rfl) rfl ?_
   refine ol_nil (to_k0 (fun _ _ h => h) (hK7 _ _ _ _ _ ?_))
   clear hK7
   first | refine wp_condD rfl (fun hc14 => ?_) (fun hc14 => ?_) | refine wp_condN rfl (fun hc14 => ?_) (fun hc14 => ?_) | refine wp_condNB rfl (fun hc14 => ?_) (fun hc14 => ?_) | refine wp_cond' rfl (fun hc14 => ?_) (fun hc14 => ?_)
   ·refine wp_skip' (to_k0 (fun _ _ h => h) (hK6 _ _ _ _ _ ?_))
    clear hK6
    refine wp_seq' fun K8 hK8 => ?_
    refine wp_block' ?_
    refine wp_seq' fun K9 hK9 => ?_
    refine wp_seq' fun K10 hK10 => ?_
    refine wp_reg ?_
    refine ol_r (r_move rfl) rfl ?_
    refine ol_r (r_move rfl) rfl ?_
    refine ol_ixr hM rfl rfl sl77 (by omega) rfl fun x19 hx19 => ?_
    try simp only [Int.toNat_natCast] at hx19
    refine ol_r (r_ldw rfl (fun w1 hb1 hs1 hB1 => Rd.loads hM ty4 hx19 hb1)) rfl ?_
    refine ol_r (r_not rfl) rfl ?_
    refine ol_nil (to_k0 (fun _ _ h => h) (hK10 _ _ _ _ _ ?_))
    clear hK10
    first | refine wp_condD rfl (fun hc21 => ?_) (fun hc21 => ?_) | refine wp_condN rfl (fun hc21 => ?_) (fun hc21 => ?_) | refine wp_condNB rfl (fun hc21 => ?_) (fun hc21 => ?_) | refine wp_cond' rfl (fun hc21 => ?_) (fun hc21 => ?_)
    ·refine wp_exit' (to_k0 (fun _ _ h => h) (hK8 _ _ _ _ _ ?_))
     clear hK8
     refine wp_reg ?_
     refine ol_r (r_move rfl) rfl ?_
     refine ol_r (r_add rfl rfl (by omega)) rfl ?_
     refine ol_r (r_assign rfl) rfl ?_
     refine ol_nil (to_k0 (fun _ _ h => h) (hK5 ((i + 1, _, _, _)) _ _ ?_ ?_ (sub_cons rfl (sub_cons rfl sub_nil)) (sub_cons rfl (sub_cons rfl (sub_cons rfl (sub_cons rfl sub_nil)))) (by exact (subH_row rfl (by first | (dsimp only; rw [takeS_no (by rw [← mkL_get hx19]; simpa using hc21)]; done) | (rw [takeS_no (by rw [← mkL_get hx19]; simpa using hc21)]; done) | (dsimp only; done)) subH_nil)) (subH_same rfl subH_nil)))
     ·try dsimp only
      have hno : ¬m i = true := by rw [← mkL_get hx19]; simpa using hc21
      exact ⟨by omega, by rw [takeS_no hno]; exact hnn, fun _ _ => closed_next hno⟩
     ·try dsimp only
      omega
    ·refine wp_skip' (to_k0 (fun _ _ h => h) (hK9 _ _ _ _ _ ?_))
     clear hK9
     refine wp_seq' fun K11 hK11 => ?_
     refine wp_reg ?_
     have hmi : m i = true := by rw [← mkL_get hx19]; simpa using hc21
     refine ol_r (r_move rfl) rfl ?_
     refine ol_r (r_assign rfl) rfl ?_
     refine ol_nil (to_k0 (fun _ _ h => h) (hK11 _ _ _ _ _ ?_))
     clear hK11
     refine wp_seq' fun K12 hK12 => ?_
     refine wp_block' ?_
     apply wp_loopM (σ := Nat) (fun s => i ≤ s ∧ s < mn ∧ ∀ t, i ≤ t → t ≤ s → m t = true) (fun s => [(8, .int .i64 s)]) [(1, _), (2, _), (3, _), (6, _), (7, _), (9, _)] (fun s => []) [(3, _), (7, _)] (fun s => mn - s) (i)
     ·try dsimp only
      exact ⟨Nat.le_refl _, by omega, fun t h1 h2 => by rw [show t = i by omega]; exact hmi⟩
     ·exact (sub_cons rfl sub_nil)
     ·exact (sub_cons rfl (sub_cons rfl (sub_cons rfl (sub_cons rfl (sub_cons rfl (sub_cons rfl sub_nil))))))
     ·exact subH_nil
     ·exact (subH_same rfl (subH_same rfl subH_nil))
     ·rintro j ⟨hj1, hj2, hjm⟩
      have e24 : ((j : Int) + 1).toNat = j + 1 := by omega
      intro K13 hK13
      refine wp_seq' fun K14 hK14 => ?_
      refine wp_seq' fun K15 hK15 => ?_
      refine wp_reg ?_
      refine ol_r (r_move rfl) rfl ?_
      refine ol_r (r_add rfl rfl (by omega)) rfl ?_
      refine ol_r (r_move rfl) rfl ?_
      refine ol_r (r_len rfl sl77) rfl ?_
      refine ol_r (r_lss rfl rfl) rfl ?_
      refine ol_r (r_move rfl) rfl ?_
      refine ol_split (d := 28) rfl (fun hs28 => ?_) (fun hs28 => ?_)
      ·have phs28 := hs28; try simp only [decide_eq_true_eq, decide_eq_false_iff_not, Bool.not_eq_true', Bool.not_eq_false', Bool.not_true, Bool.not_false] at phs28
       refine ol_g rfl rfl hs28 ?_
       refine ol_r (r_move rfl) rfl ?_
       refine ol_g rfl rfl hs28 ?_
       refine ol_r (r_move rfl) rfl ?_
       refine ol_g rfl rfl hs28 ?_
       refine ol_r (r_add rfl rfl (by omega)) rfl ?_
       refine ol_g rfl rfl hs28 ?_
       refine ol_ixr hM rfl rfl sl77 (by omega) rfl fun x32 hx32 => ?_
       try simp only [Int.toNat_natCast] at hx32
       refine ol_g rfl rfl hs28 ?_
       refine ol_r (r_ldw rfl (fun w1 hb1 hs1 hB1 => Rd.loads hM ty4 hx32 hb1)) rfl ?_
       refine ol_r (r_pickT rfl hs28 rfl) rfl ?_
       refine ol_nil (to_k0 (fun _ _ h => h) (hK15 _ _ _ _ _ ?_))
       clear hK15
       first | refine wp_condD rfl (fun hc34 => ?_) (fun hc34 => ?_) | refine wp_condN rfl (fun hc34 => ?_) (fun hc34 => ?_) | refine wp_condNB rfl (fun hc34 => ?_) (fun hc34 => ?_) | refine wp_cond' rfl (fun hc34 => ?_) (fun hc34 => ?_)
       ·refine wp_skip' (to_k0 (fun _ _ h => h) (hK14 _ _ _ _ _ ?_))
        clear hK14
        refine wp_block' ?_
        refine wp_reg ?_
        refine ol_r (r_move rfl) rfl ?_
        refine ol_r (r_add rfl rfl (by omega)) rfl ?_
        refine ol_r (r_assign rfl) rfl ?_
        refine ol_nil (to_k0 (fun _ _ h => h) (hK13 ((j + 1)) _ _ ?_ ?_ (sub_cons rfl sub_nil) (sub_cons rfl (sub_cons rfl (sub_cons rfl (sub_cons rfl (sub_cons rfl (sub_cons rfl sub_nil)))))) (by exact subH_nil) (subH_same rfl (subH_same rfl subH_nil))))
        ·try dsimp only
         refine ⟨by omega, by omega, fun t h1 h2 => ?_⟩
         by_cases ht : t = j + 1
         · rw [e24] at hx32
           rw [ht, ← mkL_get hx32]; exact hc34
         · exact hjm t h1 (by omega)
        ·try dsimp only
         omega
       ·refine wp_exit' (to_k0 (fun _ _ h => h) (hK12 _ _ _ _ _ ?_))
        clear hK12
        refine wp_seq' fun K16 hK16 => ?_
        refine wp_rega [(999, [(3, _), (7, _)])] (by kernel_rfl) ⟨.inr (subH_same rfl (subH_same rfl subH_nil)), trivial⟩ ?_
        have hend : j + 1 < mn → m (j + 1) = false := by
          first
          | (intro hlt
             rw [e24] at hx32
             rw [← mkL_get hx32]
             simpa using hc34)
          | (intro hlt; omega)
        refine aq_r 0 999 rfl (by kernel_rfl) (by kernel_rfl) (by kernel_rfl) (.head _) (by kernel_rfl) (by kernel_rfl) rfl (r_fa (o' := 3) rfl fl26_3 rfl) ?_
        refine aq_r 1 999 rfl (by kernel_rfl) (by kernel_rfl) (by kernel_rfl) (.head _) (by kernel_rfl) (by kernel_rfl) rfl (r_ld (id := 3) rfl rfl rfl sc22) ?_
        refine aq_r 2 999 rfl (by kernel_rfl) (by kernel_rfl) (by kernel_rfl) (.head _) (by kernel_rfl) (by kernel_rfl) rfl (r_move rfl) ?_
        refine aq_ixr 3 999 rfl (by kernel_rfl) (by kernel_rfl) (by kernel_rfl) (.head _) (by kernel_rfl) (by kernel_rfl) rfl hA.s rfl rfl sl22 (by omega) fun x40 hx40 => ?_
        try simp only [Int.toNat_natCast] at hx40
        refine aq_r 4 999 rfl (by kernel_rfl) (by kernel_rfl) (by kernel_rfl) (.head _) (by kernel_rfl) (by kernel_rfl) rfl (r_faw rfl (ix_some hA.s (by omega)) fl28_0) ?_
        refine aq_r 5 999 rfl (by kernel_rfl) (by kernel_rfl) (by kernel_rfl) (.head _) (by kernel_rfl) (by kernel_rfl) rfl (r_ldw rfl (fun w1 hb1 hs1 hB1 => Rd.loadsF (o := 0) hA.s sc3 hx40 hb1 rfl)) ?_
        refine aq_r 6 999 rfl (by kernel_rfl) (by kernel_rfl) (by kernel_rfl) (.head _) (by kernel_rfl) (by kernel_rfl) rfl (r_fa (o' := 3) rfl fl26_3 rfl) ?_
        refine aq_r 7 999 rfl (by kernel_rfl) (by kernel_rfl) (by kernel_rfl) (.head _) (by kernel_rfl) (by kernel_rfl) rfl (r_ld (id := 3) rfl rfl rfl sc22) ?_
        refine aq_r 8 999 rfl (by kernel_rfl) (by kernel_rfl) (by kernel_rfl) (.head _) (by kernel_rfl) (by kernel_rfl) rfl (r_move rfl) ?_
        refine aq_r 9 999 rfl (by kernel_rfl) (by kernel_rfl) (by kernel_rfl) (.head _) (by kernel_rfl) (by kernel_rfl) rfl (r_add rfl rfl (by omega)) ?_
        refine aq_ixr 10 999 rfl (by kernel_rfl) (by kernel_rfl) (by kernel_rfl) (.head _) (by kernel_rfl) (by kernel_rfl) rfl hA.s rfl rfl sl22 (by omega) fun x47 hx47 => ?_
        try simp only [Int.toNat_natCast] at hx47
        refine aq_r 11 999 rfl (by kernel_rfl) (by kernel_rfl) (by kernel_rfl) (.head _) (by kernel_rfl) (by kernel_rfl) rfl (r_faw rfl (ix_some hA.s (by omega)) fl28_0) ?_
        refine aq_r 12 999 rfl (by kernel_rfl) (by kernel_rfl) (by kernel_rfl) (.head _) (by kernel_rfl) (by kernel_rfl) rfl (r_ldw rfl (fun w1 hb1 hs1 hB1 => Rd.loadsF (o := 0) hA.s sc3 hx47 hb1 rfl)) ?_
        have b40 := hok.bd _ (List.mem_of_getElem? hx40)
        have b47 := hok.bd _ (List.mem_of_getElem? hx47)
        refine aq_r 13 999 rfl (by kernel_rfl) (by kernel_rfl) (by kernel_rfl) (.head _) (by kernel_rfl) (by kernel_rfl) rfl (r_sub rfl rfl (by omega)) ?_
        refine aq_r 14 999 rfl (by kernel_rfl) (by kernel_rfl) (by kernel_rfl) (.head _) (by kernel_rfl) (by kernel_rfl) rfl (r_build rfl (fun _ => bd54_0_1 _ _ _)) ?_
        refine aq_one (i := 15) (by kernel_rfl) rfl fun K17 hK17 => ?_
        refine ol_alloc 10 z54 rfl fun b10 => ?_
        refine ol_nil (to_k0 (fun _ _ h => h) (hK17 _ _ ⟨.inr (by repeat' first | exact subH_nil | refine subH_same rfl ?_ | (refine subH_blk rfl (by repeat' first | exact sub_nil | refine sub_cons rfl ?_) ?_)), trivial⟩ ?_))
        clear hK17
        refine aq_one (i := 16) (by kernel_rfl) rfl fun K18 hK18 => ?_
        refine ol_store (id := 10) rfl rfl rfl rfl sz54 rfl rfl (by first | decide | exact Nat.zero_lt_succ _ | simp) ?_
        refine ol_nil (to_k0 (fun _ _ h => h) (hK18 _ _ ⟨.inr (by repeat' first | exact subH_nil | refine subH_same rfl ?_ | (refine subH_blk rfl (by repeat' first | exact sub_nil | refine sub_cons rfl ?_) ?_)), trivial⟩ ?_))
        clear hK18
        refine aq_done (by kernel_rfl) ?_
        refine (to_k0 (fun _ _ h => h) (hK16 _ _ _ _ _ ?_))
        clear hK16
        refine wp_seq' fun K19 hK19 => ?_
        refine wp_reg ?_
        refine ol_r (r_fa (o' := 1) rfl fl54_1 rfl) rfl ?_
        refine ol_r (r_ld (id := 10) rfl rfl rfl sc3) rfl ?_
        refine ol_r (r_fa (o' := 0) rfl fl54_0 rfl) rfl ?_
        refine ol_r (r_ld (id := 10) rfl rfl rfl sc3) rfl ?_
        have hend2 := hend
        rw [e24] at hx47
        have hrun := takeS_run (ss := A.ss) (l := least) (hcl (by omega) hmi) (d := j - i) (fun t h1 h2 => hjm t h1 (by omega)) (s := ⟨x40.at_, x47.at_ - 1⟩) (by rw [show i + (j - i) + 1 = j + 1 by omega, atN_get hx40, atN_get hx47])
        rw [show i + (j - i) + 1 = j + 1 by omega] at hrun
        refine ol_r (r_sub rfl rfl (by omega)) rfl ?_
        refine ol_r (r_add rfl rfl (by omega)) rfl ?_
        refine ol_r (r_move rfl) rfl ?_
        refine ol_r (r_geq rfl rfl) rfl ?_
        refine ol_nil (to_k0 (fun _ _ h => h) (hK19 _ _ _ _ _ ?_))
        clear hK19
        first | refine wp_condD rfl (fun hc59 => ?_) (fun hc59 => ?_) | refine wp_condN rfl (fun hc59 => ?_) (fun hc59 => ?_) | refine wp_condNB rfl (fun hc59 => ?_) (fun hc59 => ?_) | refine wp_cond' rfl (fun hc59 => ?_) (fun hc59 => ?_)
        ·refine wp_reg ?_
         refine ol_r (r_move rfl) rfl ?_
         refine ol_r (r_lda (id := 10) (n := 2) rfl rfl rfl ag54) rfl ?_
         refine ol_bs1 62 rfl rfl rw46 rfl rfl rfl fun a62 => ?_
         refine ol_append1 (id := 7) (id2 := 62) rfl rfl rfl rfl rfl rw46 (by omega) rfl fun a63 c63 => ?_
         refine ol_r (r_assign rfl) rfl ?_
         refine ol_nil (to_k0 (fun _ _ h => h) (hK8 _ _ _ _ _ ?_))
         clear hK8
         refine wp_reg ?_
         refine ol_r (r_move rfl) rfl ?_
         refine ol_r (r_add rfl rfl (by omega)) rfl ?_
         refine ol_r (r_assign rfl) rfl ?_
         refine ol_nil (to_k0 (fun _ _ h => h) (hK5 ((j + 1, _, _, _)) _ _ ?_ ?_ (sub_cons rfl (sub_cons rfl sub_nil)) (sub_cons rfl (sub_cons rfl (sub_cons rfl (sub_cons rfl sub_nil)))) (by exact (subH_row rfl (by first | (dsimp only; first | (rw [take_row (hrun.trans (if_pos hc59))]; rfl) | rfl; done) | (first | (rw [take_row (hrun.trans (if_pos hc59))]; rfl) | rfl; done) | (dsimp only; done)) subH_nil)) (subH_same rfl subH_nil)))
         ·try dsimp only
          refine ⟨by omega, by rw [hrun, if_pos hc59, List.length_append, ← hnn]; rfl, fun hlt h => ?_⟩
          rw [hend (by omega)] at h; cases h
         ·try dsimp only
          omega
        ·refine wp_skip' (to_k0 (fun _ _ h => h) (hK8 _ _ _ _ _ ?_))
         clear hK8
         refine wp_reg ?_
         refine ol_r (r_move rfl) rfl ?_
         refine ol_r (r_add rfl rfl (by omega)) rfl ?_
         refine ol_r (r_assign rfl) rfl ?_
         refine ol_nil (to_k0 (fun _ _ h => h) (hK5 ((j + 1, _, _, _)) _ _ ?_ ?_ (sub_cons rfl (sub_cons rfl sub_nil)) (sub_cons rfl (sub_cons rfl (sub_cons rfl (sub_cons rfl sub_nil)))) (by exact (subH_row rfl (by first | (dsimp only; rw [hrun, if_neg hc59]; done) | (rw [hrun, if_neg hc59]; done) | (dsimp only; done)) subH_nil)) (subH_same rfl subH_nil)))
         ·try dsimp only
          refine ⟨by omega, by rw [hrun, if_neg hc59]; exact hnn, fun hlt h => ?_⟩
          rw [hend (by omega)] at h; cases h
         ·try dsimp only
          omega
      ·have phs28 := hs28; try simp only [decide_eq_true_eq, decide_eq_false_iff_not, Bool.not_eq_true', Bool.not_eq_false', Bool.not_true, Bool.not_false] at phs28
       refine ol_s rfl rfl hs28 rfl ?_
       refine ol_s rfl rfl hs28 rfl ?_
       refine ol_s rfl rfl hs28 rfl ?_
       refine ol_s rfl rfl hs28 rfl ?_
       refine ol_s rfl rfl hs28 rfl ?_
       refine ol_r (r_pickF rfl hs28 rfl) rfl ?_
       refine ol_nil (to_k0 (fun _ _ h => h) (hK15 _ _ _ _ _ ?_))
       clear hK15
       refine wp_condF rfl ?_
       refine wp_exit' (to_k0 (fun _ _ h => h) (hK12 _ _ _ _ _ ?_))
       clear hK12
       refine wp_seq' fun K20 hK20 => ?_
       refine wp_rega [(999, [(3, _), (7, _)])] (by kernel_rfl) ⟨.inr (subH_same rfl (subH_same rfl subH_nil)), trivial⟩ ?_
       have hend : j + 1 < mn → m (j + 1) = false := by
         first
         | (intro hlt
            rw [e24] at hx32
            rw [← mkL_get hx32]
            simpa using hc34)
         | (intro hlt; omega)
       refine aq_r 0 999 rfl (by kernel_rfl) (by kernel_rfl) (by kernel_rfl) (.head _) (by kernel_rfl) (by kernel_rfl) rfl (r_fa (o' := 3) rfl fl26_3 rfl) ?_
       refine aq_r 1 999 rfl (by kernel_rfl) (by kernel_rfl) (by kernel_rfl) (.head _) (by kernel_rfl) (by kernel_rfl) rfl (r_ld (id := 3) rfl rfl rfl sc22) ?_
       refine aq_r 2 999 rfl (by kernel_rfl) (by kernel_rfl) (by kernel_rfl) (.head _) (by kernel_rfl) (by kernel_rfl) rfl (r_move rfl) ?_
       refine aq_ixr 3 999 rfl (by kernel_rfl) (by kernel_rfl) (by kernel_rfl) (.head _) (by kernel_rfl) (by kernel_rfl) rfl hA.s rfl rfl sl22 (by omega) fun x40 hx40 => ?_
       try simp only [Int.toNat_natCast] at hx40
       refine aq_r 4 999 rfl (by kernel_rfl) (by kernel_rfl) (by kernel_rfl) (.head _) (by kernel_rfl) (by kernel_rfl) rfl (r_faw rfl (ix_some hA.s (by omega)) fl28_0) ?_
       refine aq_r 5 999 rfl (by kernel_rfl) (by kernel_rfl) (by kernel_rfl) (.head _) (by kernel_rfl) (by kernel_rfl) rfl (r_ldw rfl (fun w1 hb1 hs1 hB1 => Rd.loadsF (o := 0) hA.s sc3 hx40 hb1 rfl)) ?_
       refine aq_r 6 999 rfl (by kernel_rfl) (by kernel_rfl) (by kernel_rfl) (.head _) (by kernel_rfl) (by kernel_rfl) rfl (r_fa (o' := 3) rfl fl26_3 rfl) ?_
       refine aq_r 7 999 rfl (by kernel_rfl) (by kernel_rfl) (by kernel_rfl) (.head _) (by kernel_rfl) (by kernel_rfl) rfl (r_ld (id := 3) rfl rfl rfl sc22) ?_
       refine aq_r 8 999 rfl (by kernel_rfl) (by kernel_rfl) (by kernel_rfl) (.head _) (by kernel_rfl) (by kernel_rfl) rfl (r_move rfl) ?_
       refine aq_r 9 999 rfl (by kernel_rfl) (by kernel_rfl) (by kernel_rfl) (.head _) (by kernel_rfl) (by kernel_rfl) rfl (r_add rfl rfl (by omega)) ?_
       refine aq_ixr 10 999 rfl (by kernel_rfl) (by kernel_rfl) (by kernel_rfl) (.head _) (by kernel_rfl) (by kernel_rfl) rfl hA.s rfl rfl sl22 (by omega) fun x47 hx47 => ?_
       try simp only [Int.toNat_natCast] at hx47
       refine aq_r 11 999 rfl (by kernel_rfl) (by kernel_rfl) (by kernel_rfl) (.head _) (by kernel_rfl) (by kernel_rfl) rfl (r_faw rfl (ix_some hA.s (by omega)) fl28_0) ?_
       refine aq_r 12 999 rfl (by kernel_rfl) (by kernel_rfl) (by kernel_rfl) (.head _) (by kernel_rfl) (by kernel_rfl) rfl (r_ldw rfl (fun w1 hb1 hs1 hB1 => Rd.loadsF (o := 0) hA.s sc3 hx47 hb1 rfl)) ?_
       have b40 := hok.bd _ (List.mem_of_getElem? hx40)
       have b47 := hok.bd _ (List.mem_of_getElem? hx47)
       refine aq_r 13 999 rfl (by kernel_rfl) (by kernel_rfl) (by kernel_rfl) (.head _) (by kernel_rfl) (by kernel_rfl) rfl (r_sub rfl rfl (by omega)) ?_
       refine aq_r 14 999 rfl (by kernel_rfl) (by kernel_rfl) (by kernel_rfl) (.head _) (by kernel_rfl) (by kernel_rfl) rfl (r_build rfl (fun _ => bd54_0_1 _ _ _)) ?_
       refine aq_one (i := 15) (by kernel_rfl) rfl fun K21 hK21 => ?_
       refine ol_alloc 10 z54 rfl fun b10 => ?_
       refine ol_nil (to_k0 (fun _ _ h => h) (hK21 _ _ ⟨.inr (by repeat' first | exact subH_nil | refine subH_same rfl ?_ | (refine subH_blk rfl (by repeat' first | exact sub_nil | refine sub_cons rfl ?_) ?_)), trivial⟩ ?_))
       clear hK21
       refine aq_one (i := 16) (by kernel_rfl) rfl fun K22 hK22 => ?_
       refine ol_store (id := 10) rfl rfl rfl rfl sz54 rfl rfl (by first | decide | exact Nat.zero_lt_succ _ | simp) ?_
       refine ol_nil (to_k0 (fun _ _ h => h) (hK22 _ _ ⟨.inr (by repeat' first | exact subH_nil | refine subH_same rfl ?_ | (refine subH_blk rfl (by repeat' first | exact sub_nil | refine sub_cons rfl ?_) ?_)), trivial⟩ ?_))
       clear hK22
       refine aq_done (by kernel_rfl) ?_
       refine (to_k0 (fun _ _ h => h) (hK20 _ _ _ _ _ ?_))
       clear hK20
       refine wp_seq' fun K23 hK23 => ?_
       refine wp_reg ?_
       refine ol_r (r_fa (o' := 1) rfl fl54_1 rfl) rfl ?_
       refine ol_r (r_ld (id := 10) rfl rfl rfl sc3) rfl ?_
       refine ol_r (r_fa (o' := 0) rfl fl54_0 rfl) rfl ?_
       refine ol_r (r_ld (id := 10) rfl rfl rfl sc3) rfl ?_
       have hend2 := hend
       rw [e24] at hx47
       have hrun := takeS_run (ss := A.ss) (l := least) (hcl (by omega) hmi) (d := j - i) (fun t h1 h2 => hjm t h1 (by omega)) (s := ⟨x40.at_, x47.at_ - 1⟩) (by rw [show i + (j - i) + 1 = j + 1 by omega, atN_get hx40, atN_get hx47])
       rw [show i + (j - i) + 1 = j + 1 by omega] at hrun
       refine ol_r (r_sub rfl rfl (by omega)) rfl ?_
       refine ol_r (r_add rfl rfl (by omega)) rfl ?_
       refine ol_r (r_move rfl) rfl ?_
       refine ol_r (r_geq rfl rfl) rfl ?_
       refine ol_nil (to_k0 (fun _ _ h => h) (hK23 _ _ _ _ _ ?_))
       clear hK23
       first | refine wp_condD rfl (fun hc59 => ?_) (fun hc59 => ?_) | refine wp_condN rfl (fun hc59 => ?_) (fun hc59 => ?_) | refine wp_condNB rfl (fun hc59 => ?_) (fun hc59 => ?_) | refine wp_cond' rfl (fun hc59 => ?_) (fun hc59 => ?_)
       ·refine wp_reg ?_
        refine ol_r (r_move rfl) rfl ?_
        refine ol_r (r_lda (id := 10) (n := 2) rfl rfl rfl ag54) rfl ?_
        refine ol_bs1 62 rfl rfl rw46 rfl rfl rfl fun a62 => ?_
        refine ol_append1 (id := 7) (id2 := 62) rfl rfl rfl rfl rfl rw46 (by omega) rfl fun a63 c63 => ?_
        refine ol_r (r_assign rfl) rfl ?_
        refine ol_nil (to_k0 (fun _ _ h => h) (hK8 _ _ _ _ _ ?_))
        clear hK8
        refine wp_reg ?_
        refine ol_r (r_move rfl) rfl ?_
        refine ol_r (r_add rfl rfl (by omega)) rfl ?_
        refine ol_r (r_assign rfl) rfl ?_
        refine ol_nil (to_k0 (fun _ _ h => h) (hK5 ((j + 1, _, _, _)) _ _ ?_ ?_ (sub_cons rfl (sub_cons rfl sub_nil)) (sub_cons rfl (sub_cons rfl (sub_cons rfl (sub_cons rfl sub_nil)))) (by exact (subH_row rfl (by first | (dsimp only; first | (rw [take_row (hrun.trans (if_pos hc59))]; rfl) | rfl; done) | (first | (rw [take_row (hrun.trans (if_pos hc59))]; rfl) | rfl; done) | (dsimp only; done)) subH_nil)) (subH_same rfl subH_nil)))
        ·try dsimp only
         refine ⟨by omega, by rw [hrun, if_pos hc59, List.length_append, ← hnn]; rfl, fun h => ?_⟩
         omega
        ·try dsimp only
         omega
       ·refine wp_skip' (to_k0 (fun _ _ h => h) (hK8 _ _ _ _ _ ?_))
        clear hK8
        refine wp_reg ?_
        refine ol_r (r_move rfl) rfl ?_
        refine ol_r (r_add rfl rfl (by omega)) rfl ?_
        refine ol_r (r_assign rfl) rfl ?_
        refine ol_nil (to_k0 (fun _ _ h => h) (hK5 ((j + 1, _, _, _)) _ _ ?_ ?_ (sub_cons rfl (sub_cons rfl sub_nil)) (sub_cons rfl (sub_cons rfl (sub_cons rfl (sub_cons rfl sub_nil)))) (by exact (subH_row rfl (by first | (dsimp only; rw [hrun, if_neg hc59]; done) | (rw [hrun, if_neg hc59]; done) | (dsimp only; done)) subH_nil)) (subH_same rfl subH_nil)))
        ·try dsimp only
         refine ⟨by omega, by rw [hrun, if_neg hc59]; exact hnn, fun h => ?_⟩
         omega
        ·try dsimp only
         omega
   ·refine wp_exit' (to_k0 (fun _ _ h => h) (hK3 _ _ _ _ _ ?_))
    clear hK3
    refine wp_seq' fun K24 hK24 => ?_
    refine wp_reg ?_
    refine ol_r (r_move rfl) rfl ?_
    refine ol_r (r_assign rfl) rfl ?_
    refine ol_nil (to_k0 (fun _ _ h => h) (hK24 _ _ _ _ _ ?_))
    clear hK24
    refine hQ.ret (rvs1 (rv_t rfl)) (fun _ _ h => h) fun w hb hs hB hkd => ?_
    obtain rfl : i = mn := by omega
    refine ⟨?_, hb⟩
    subst hnn
    rw [rowsR_take, ← hmn]
    exact ⟨na, nc, rfl, hs.one 7 1001 rfl (Ent.le_refl _)⟩
theorem ref3_Idle (A : ActV) (gap : Int) (w : World) (hA : A.Ok w.heap.size w) :
    Calls Try.prog 28 #[.agg #[.string A.name, .int .i64 A.sport, .int .i64 A.start, .slice A.sa A.sn A.sc, .slice A.la A.ln A.lc, .slice A.ta A.tn A.tc], .int .i64 gap] w fun e w' => OutT w.heap.size w' (idleR A.d gap) e ∧ Below w.heap.size w w' := by
  have hsn := hA.s.len
  refine enterQ (N := 45) (C := fun _ => True) (H := []) (B := w.heap.size) (args := [_, _]) Try.func28 rfl rfl rfl (Nat.le_refl _) (Sat.nil _ _) fun Q hQ => ?_
  refine wp_seq' fun K1 hK1 => ?_
  refine wp_reg ?_
  refine ol_box 2 rfl rfl rfl fun b2 => ?_
  refine ol_r (r_assign rfl) rfl ?_
  refine ol_r (r_assign rfl) rfl ?_
  refine ol_nil (to_k0 (fun _ _ h => h) (hK1 _ _ _ _ _ ?_))
  clear hK1
  refine wp_seq' fun K2 hK2 => ?_
  refine wp_seq' fun K3 hK3 => ?_
  refine wp_reg ?_
  refine ol_r (r_lda (id := 2) (n := 6) rfl rfl rfl ag26) rfl ?_
  refine ol_call rfl rfl cb44 rfl (fun w1 hb1 hs1 hB1 => Calls.mono (ref2_Check A _ (hA.at hb1 hB1)) ?_)
  rintro e w2 ⟨rfl, hb2⟩
  refine After.below rfl hb1 hs1 hB1 hb2 ?_
  clear hb2 hB1 hs1 hb1 w2 w1
  refine ol_r (r_assign rfl) rfl ?_
  refine ol_nil (to_k0 (fun _ _ h => h) (hK3 _ _ _ _ _ ?_))
  clear hK3
  refine wp_seq' fun K4 hK4 => ?_
  refine wp_reg ?_
  refine ol_r (r_move rfl) rfl ?_
  refine ol_r (r_neq rfl rfl) rfl ?_
  refine ol_nil (to_k0 (fun _ _ h => h) (hK4 _ _ _ _ _ ?_))
  clear hK4
  first | refine wp_condD rfl (fun hc12 => ?_) (fun hc12 => ?_) | refine wp_condN rfl (fun hc12 => ?_) (fun hc12 => ?_) | refine wp_condNB rfl (fun hc12 => ?_) (fun hc12 => ?_) | refine wp_cond' rfl (fun hc12 => ?_) (fun hc12 => ?_)
  ·refine wp_seq' fun K5 hK5 => ?_
   refine wp_reg ?_
   refine ol_r (r_move rfl) rfl ?_
   refine ol_r (r_assign rfl) rfl ?_
   refine ol_r (r_assign rfl) rfl ?_
   refine ol_nil (to_k0 (fun _ _ h => h) (hK5 _ _ _ _ _ ?_))
   clear hK5
   refine hQ.ret (rvs2 (rv_t rfl) (rv_t rfl)) (fun _ _ h => h) fun w hb hs hB hkd => ?_
   exact ⟨outT_no (idleR_e hc12), hb⟩
  ·refine wp_skip' (to_k0 (fun _ _ h => h) (hK2 _ _ _ _ _ ?_))
   clear hK2
   refine wp_seq' fun K6 hK6 => ?_
   refine wp_seq' fun K7 hK7 => ?_
   refine wp_reg ?_
   refine ol_r (r_move rfl) rfl ?_
   refine ol_call rfl rfl cb45 rfl (fun w1 hb1 hs1 hB1 => Calls.mono (ref3_outside _ _ _ _) ?_)
   rintro e w2 ⟨rfl, hb2⟩
   refine After.below rfl hb1 hs1 hB1 hb2 ?_
   clear hb2 hB1 hs1 hb1 w2 w1
   refine ol_nil (to_k0 (fun _ _ h => h) (hK7 _ _ _ _ _ ?_))
   clear hK7
   first | refine wp_condD rfl (fun hc15 => ?_) (fun hc15 => ?_) | refine wp_condN rfl (fun hc15 => ?_) (fun hc15 => ?_) | refine wp_condNB rfl (fun hc15 => ?_) (fun hc15 => ?_) | refine wp_cond' rfl (fun hc15 => ?_) (fun hc15 => ?_)
   ·refine wp_seq' fun K8 hK8 => ?_
    refine wp_reg ?_
    refine ol_r (r_assign rfl) rfl ?_
    refine ol_r (r_assign rfl) rfl ?_
    refine ol_nil (to_k0 (fun _ _ h => h) (hK8 _ _ _ _ _ ?_))
    clear hK8
    refine hQ.ret (rvs2 (rv_t rfl) (rv_t rfl)) (fun _ _ h => h) fun w hb hs hB hkd => ?_
    exact ⟨outT_no (idleR_9 hc12 (by have h := inB_not.1 (by simpa using hc15); omega)), hb⟩
   ·refine wp_skip' (to_k0 (fun _ _ h => h) (hK6 _ _ _ _ _ ?_))
    clear hK6
    refine wp_seq' fun K9 hK9 => ?_
    refine wp_reg ?_
    refine ol_nilrow 7 4 1 ?_
    refine ol_r (r_assign rfl) rfl ?_
    refine ol_nil (to_k0 (fun _ _ h => h) (hK9 _ _ _ _ _ ?_))
    clear hK9
    refine wp_seq' fun K10 hK10 => ?_
    refine wp_seq' fun K11 hK11 => ?_
    refine wp_reg ?_
    refine ol_r (r_assign rfl) rfl ?_
    refine ol_nil (to_k0 (fun _ _ h => h) (hK11 _ _ _ _ _ ?_))
    clear hK11
    refine wp_block' ?_
    apply wp_loopM (σ := Nat × Option Addr × Nat) (fun s => s.1 ≤ A.ss.length - 1) (fun s => [(8, .int .i64 ((s.1 : Int) + 1)), (7, .slice s.2.1 s.1 s.2.2)]) [(1, _), (2, _), (4, _), (5, _)] (fun s => [(7, .row s.2.1 s.1 s.2.2 (encBo.enc (mkL (idleM A.ss gap) s.1)) 4 1)]) [(2, _)] (fun s => A.ss.length - 1 - s.1) ((0, none, 0))
    ·try dsimp only
     exact Nat.zero_le _
    ·exact (sub_cons rfl (sub_cons rfl sub_nil))
    ·exact (sub_cons rfl (sub_cons rfl (sub_cons rfl (sub_cons rfl sub_nil))))
    ·exact (subH_row rfl (by first | (dsimp only; rfl; done) | (rfl; done) | (dsimp only; done)) subH_nil)
    ·exact (subH_same rfl subH_nil)
    ·rintro ⟨k, na, nc⟩ hk
     dsimp only at hk ⊢
     have e8 : ((k : Int) + 1).toNat = k + 1 := by omega
     have e8b : ((k : Int) + 1 - 1).toNat = k := by omega
     intro K12 hK12
     refine wp_seq' fun K13 hK13 => ?_
     refine wp_seq' fun K14 hK14 => ?_
     refine wp_reg ?_
     have hok : SmpOk A.start A.ss := (goodA (Decidable.not_not.1 hc12)).smp
     have hll := hok.len
     refine ol_r (r_move rfl) rfl ?_
     refine ol_r (r_fa (o' := 3) rfl fl26_3 rfl) rfl ?_
     refine ol_r (r_ld (id := 2) rfl rfl rfl sc22) rfl ?_
     refine ol_r (r_len rfl sl22) rfl ?_
     refine ol_r (r_lss rfl rfl) rfl ?_
     refine ol_nil (to_k0 (fun _ _ h => h) (hK14 _ _ _ _ _ ?_))
     clear hK14
     first | refine wp_condD rfl (fun hc20 => ?_) (fun hc20 => ?_) | refine wp_condN rfl (fun hc20 => ?_) (fun hc20 => ?_) | refine wp_condNB rfl (fun hc20 => ?_) (fun hc20 => ?_) | refine wp_cond' rfl (fun hc20 => ?_) (fun hc20 => ?_)
     ·refine wp_skip' (to_k0 (fun _ _ h => h) (hK13 _ _ _ _ _ ?_))
      clear hK13
      refine wp_seq' fun K15 hK15 => ?_
      refine wp_block' ?_
      refine wp_rega [(999, [(2, _)]), (18, [(7, _)])] (by kernel_rfl) ⟨.inr (subH_same rfl subH_nil), ⟨.inr (subH_same rfl subH_nil), trivial⟩⟩ ?_
      refine aq_r 0 999 rfl (by kernel_rfl) (by kernel_rfl) (by kernel_rfl) (.head _) (by kernel_rfl) (by kernel_rfl) rfl (r_move rfl) ?_
      refine aq_r 1 999 rfl (by kernel_rfl) (by kernel_rfl) (by kernel_rfl) (.head _) (by kernel_rfl) (by kernel_rfl) rfl (r_fa (o' := 3) rfl fl26_3 rfl) ?_
      refine aq_r 2 999 rfl (by kernel_rfl) (by kernel_rfl) (by kernel_rfl) (.head _) (by kernel_rfl) (by kernel_rfl) rfl (r_ld (id := 2) rfl rfl rfl sc22) ?_
      refine aq_r 3 999 rfl (by kernel_rfl) (by kernel_rfl) (by kernel_rfl) (.head _) (by kernel_rfl) (by kernel_rfl) rfl (r_move rfl) ?_
      refine aq_ixr 4 999 rfl (by kernel_rfl) (by kernel_rfl) (by kernel_rfl) (.head _) (by kernel_rfl) (by kernel_rfl) rfl hA.s rfl rfl sl22 (by omega) fun x27 hx27 => ?_
      try simp only [Int.toNat_natCast] at hx27
      refine aq_r 5 999 rfl (by kernel_rfl) (by kernel_rfl) (by kernel_rfl) (.head _) (by kernel_rfl) (by kernel_rfl) rfl (r_faw rfl (ix_some hA.s (by omega)) fl28_0) ?_
      refine aq_r 6 999 rfl (by kernel_rfl) (by kernel_rfl) (by kernel_rfl) (.head _) (by kernel_rfl) (by kernel_rfl) rfl (r_ldw rfl (fun w1 hb1 hs1 hB1 => Rd.loadsF (o := 0) hA.s sc3 hx27 hb1 rfl)) ?_
      refine aq_r 7 999 rfl (by kernel_rfl) (by kernel_rfl) (by kernel_rfl) (.head _) (by kernel_rfl) (by kernel_rfl) rfl (r_fa (o' := 3) rfl fl26_3 rfl) ?_
      refine aq_r 8 999 rfl (by kernel_rfl) (by kernel_rfl) (by kernel_rfl) (.head _) (by kernel_rfl) (by kernel_rfl) rfl (r_ld (id := 2) rfl rfl rfl sc22) ?_
      refine aq_r 9 999 rfl (by kernel_rfl) (by kernel_rfl) (by kernel_rfl) (.head _) (by kernel_rfl) (by kernel_rfl) rfl (r_move rfl) ?_
      refine aq_r 10 999 rfl (by kernel_rfl) (by kernel_rfl) (by kernel_rfl) (.head _) (by kernel_rfl) (by kernel_rfl) rfl (r_sub rfl rfl (by omega)) ?_
      refine aq_ixr 11 999 rfl (by kernel_rfl) (by kernel_rfl) (by kernel_rfl) (.head _) (by kernel_rfl) (by kernel_rfl) rfl hA.s rfl rfl sl22 (by omega) fun x34 hx34 => ?_
      try simp only [Int.toNat_natCast] at hx34
      refine aq_r 12 999 rfl (by kernel_rfl) (by kernel_rfl) (by kernel_rfl) (.head _) (by kernel_rfl) (by kernel_rfl) rfl (r_faw rfl (ix_some hA.s (by omega)) fl28_0) ?_
      refine aq_r 13 999 rfl (by kernel_rfl) (by kernel_rfl) (by kernel_rfl) (.head _) (by kernel_rfl) (by kernel_rfl) rfl (r_ldw rfl (fun w1 hb1 hs1 hB1 => Rd.loadsF (o := 0) hA.s sc3 hx34 hb1 rfl)) ?_
      rw [e8] at hx27
      rw [e8b] at hx34
      have b27 := hok.bd _ (List.mem_of_getElem? hx27)
      have b34 := hok.bd _ (List.mem_of_getElem? hx34)
      have him := idleM_get (gap := gap) (stepsL_get hx34 hx27)
      refine aq_r 14 999 rfl (by kernel_rfl) (by kernel_rfl) (by kernel_rfl) (.head _) (by kernel_rfl) (by kernel_rfl) rfl (r_sub rfl rfl (by omega)) ?_
      refine aq_r 15 999 rfl (by kernel_rfl) (by kernel_rfl) (by kernel_rfl) (.head _) (by kernel_rfl) (by kernel_rfl) rfl (r_move rfl) ?_
      refine aq_r 16 999 rfl (by kernel_rfl) (by kernel_rfl) (by kernel_rfl) (.head _) (by kernel_rfl) (by kernel_rfl) rfl (r_gtr rfl rfl) ?_
      refine aq_one (i := 17) (by kernel_rfl) rfl fun K16 hK16 => ?_
      refine ol_bs1 40 rfl rfl rw77 rfl rfl rfl fun a40 => ?_
      refine ol_nil (to_k0 (fun _ _ h => h) (hK16 _ _ ⟨.inr (by repeat' first | exact subH_nil | refine subH_same rfl ?_ | (refine subH_blk rfl (by repeat' first | exact sub_nil | refine sub_cons rfl ?_) ?_)), ⟨.inr (by repeat' first | exact subH_nil | refine subH_same rfl ?_ | (refine subH_blk rfl (by repeat' first | exact sub_nil | refine sub_cons rfl ?_) ?_)), trivial⟩⟩ ?_))
      clear hK16
      refine aq_one (i := 18) (by kernel_rfl) rfl fun K17 hK17 => ?_
      refine ol_append1 (id := 7) (id2 := 40) rfl rfl rfl rfl rfl rw77 (by omega) rfl fun a41 c41 => ?_
      refine ol_nil (to_k0 (fun _ _ h => h) (hK17 _ _ ⟨.inr (by repeat' first | exact subH_nil | refine subH_same rfl ?_ | (refine subH_blk rfl (by repeat' first | exact sub_nil | refine sub_cons rfl ?_) ?_)), ⟨.inl (by kernel_rfl), trivial⟩⟩ ?_))
      clear hK17
      refine aq_r 19 999 rfl (by kernel_rfl) (by kernel_rfl) (by kernel_rfl) (.head _) (by kernel_rfl) (by kernel_rfl) rfl (r_assign rfl) ?_
      refine aq_done (by kernel_rfl) ?_
      refine (to_k0 (fun _ _ h => h) (hK15 _ _ _ _ _ ?_))
      clear hK15
      refine wp_reg ?_
      refine ol_r (r_move rfl) rfl ?_
      refine ol_r (r_add rfl rfl (by omega)) rfl ?_
      refine ol_r (r_assign rfl) rfl ?_
      refine ol_nil (to_k0 (fun _ _ h => h) (hK12 ((k + 1, _, _)) _ _ ?_ ?_ (sub_cons rfl (sub_cons rfl sub_nil)) (sub_cons rfl (sub_cons rfl (sub_cons rfl (sub_cons rfl sub_nil)))) (by exact (subH_row rfl (by first | (dsimp only; first | (rw [mkL_succ, him]; first | done | rfl) | rfl; done) | (first | (rw [mkL_succ, him]; first | done | rfl) | rfl; done) | (dsimp only; done)) subH_nil)) (subH_same rfl subH_nil)))
      ·try dsimp only
       omega
      ·try dsimp only
       omega
     ·refine wp_exit' (to_k0 (fun _ _ h => h) (hK10 _ _ _ _ _ ?_))
      clear hK10
      refine wp_seq' fun K18 hK18 => ?_
      refine wp_reg ?_
      refine ol_r (r_lda (id := 2) (n := 6) rfl rfl rfl ag26) rfl ?_
      refine ol_r (r_move rfl) rfl ?_
      refine ol_call rfl rfl cb72 rfl (fun w1 hb1 hs1 hB1 => ?_)
      have hkk : k = A.ss.length - 1 := by omega
      subst hkk
      refine Calls.mono (ref3_rows A (idleM A.ss gap) _ _ _ 1 _ (hA.at hb1 hB1) hok (hs1.rd (id := 7) rfl rfl)) ?_
      rintro e w2 ⟨⟨a, c, rfl, hs2⟩, hb2⟩
      refine After.more rfl hb1 hs1 hB1 hb2 hs2 ?_
      clear hs2 hb2 hB1 hs1 hb1 w2 w1
      refine ol_r (r_assign rfl) rfl ?_
      refine ol_r (r_assign rfl) rfl ?_
      refine ol_nil (to_k0 (fun _ _ h => h) (hK18 _ _ _ _ _ ?_))
      clear hK18
      refine hQ.ret (rvs2 (rv_t rfl) (rv_t rfl)) (fun _ _ h => h) fun w hb hs hB hkd => ?_
      have h := inB_iff.1 (by simpa using hc15)
      refine ⟨?_, hb⟩
      rw [idleR_0 hc12 (by omega)]
      have hf := filter_0_1 hok (idleM A.ss gap)
      refine ⟨a, c, ?_, ?_⟩
      · show _ = Ending.returned (Value.tuple #[Value.slice a (rowsR A.ss (idleM A.ss gap) 0).length c, .int .i64 0])
        rw [← hf]
      · show Sat _ _ [(1001, .row a (rowsR A.ss (idleM A.ss gap) 0).length c (encSpan.enc (rowsR A.ss (idleM A.ss gap) 0)) 54 2)]
        rw [← hf]
        exact hs.one 1001 1001 rfl (Ent.le_refl _)
theorem ref3_Still (A : ActV) (slow least : Int) (w : World) (hA : A.Ok w.heap.size w) :
    Calls Try.prog 30 #[.agg #[.string A.name, .int .i64 A.sport, .int .i64 A.start, .slice A.sa A.sn A.sc, .slice A.la A.ln A.lc, .slice A.ta A.tn A.tc], .int .i64 slow, .int .i64 least] w fun e w' => OutT w.heap.size w' (stillR A.d slow least) e ∧ Below w.heap.size w w' := by
  have hsn := hA.s.len
  refine enterQ (N := 60) (C := fun _ => True) (H := []) (B := w.heap.size) (args := [_, _, _]) Try.func30 rfl rfl rfl (Nat.le_refl _) (Sat.nil _ _) fun Q hQ => ?_
  refine wp_seq' fun K1 hK1 => ?_
  refine wp_reg ?_
  refine ol_box 3 rfl rfl rfl fun b3 => ?_
  refine ol_r (r_assign rfl) rfl ?_
  refine ol_r (r_assign rfl) rfl ?_
  refine ol_nil (to_k0 (fun _ _ h => h) (hK1 _ _ _ _ _ ?_))
  clear hK1
  refine wp_seq' fun K2 hK2 => ?_
  refine wp_seq' fun K3 hK3 => ?_
  refine wp_reg ?_
  refine ol_r (r_lda (id := 3) (n := 6) rfl rfl rfl ag26) rfl ?_
  refine ol_call rfl rfl cb44 rfl (fun w1 hb1 hs1 hB1 => Calls.mono (ref2_Check A _ (hA.at hb1 hB1)) ?_)
  rintro e w2 ⟨rfl, hb2⟩
  refine After.below rfl hb1 hs1 hB1 hb2 ?_
  clear hb2 hB1 hs1 hb1 w2 w1
  refine ol_r (r_assign rfl) rfl ?_
  refine ol_nil (to_k0 (fun _ _ h => h) (hK3 _ _ _ _ _ ?_))
  clear hK3
  refine wp_seq' fun K4 hK4 => ?_
  refine wp_reg ?_
  refine ol_r (r_move rfl) rfl ?_
  refine ol_r (r_neq rfl rfl) rfl ?_
  refine ol_nil (to_k0 (fun _ _ h => h) (hK4 _ _ _ _ _ ?_))
  clear hK4
  first | refine wp_condD rfl (fun hc16 => ?_) (fun hc16 => ?_) | refine wp_condN rfl (fun hc16 => ?_) (fun hc16 => ?_) | refine wp_condNB rfl (fun hc16 => ?_) (fun hc16 => ?_) | refine wp_cond' rfl (fun hc16 => ?_) (fun hc16 => ?_)
  ·refine wp_seq' fun K5 hK5 => ?_
   refine wp_reg ?_
   refine ol_r (r_move rfl) rfl ?_
   refine ol_r (r_assign rfl) rfl ?_
   refine ol_r (r_assign rfl) rfl ?_
   refine ol_nil (to_k0 (fun _ _ h => h) (hK5 _ _ _ _ _ ?_))
   clear hK5
   refine hQ.ret (rvs2 (rv_t rfl) (rv_t rfl)) (fun _ _ h => h) fun w hb hs hB hkd => ?_
   exact ⟨outT_no (stillR_e hc16), hb⟩
  ·refine wp_skip' (to_k0 (fun _ _ h => h) (hK2 _ _ _ _ _ ?_))
   clear hK2
   refine wp_seq' fun K6 hK6 => ?_
   refine wp_seq' fun K7 hK7 => ?_
   refine wp_reg ?_
   refine ol_r (r_move rfl) rfl ?_
   refine ol_call rfl rfl cb45 rfl (fun w1 hb1 hs1 hB1 => Calls.mono (ref3_outside _ _ _ _) ?_)
   rintro e w2 ⟨rfl, hb2⟩
   refine After.below rfl hb1 hs1 hB1 hb2 ?_
   clear hb2 hB1 hs1 hb1 w2 w1
   refine ol_r (r_move rfl) rfl ?_
   refine ol_split (d := 20) rfl (fun hs20 => ?_) (fun hs20 => ?_)
   ·have phs20 := hs20; try simp only [decide_eq_true_eq, decide_eq_false_iff_not, Bool.not_eq_true', Bool.not_eq_false', Bool.not_true, Bool.not_false] at phs20
    refine ol_s rfl rfl hs20 rfl ?_
    refine ol_s rfl rfl hs20 rfl ?_
    refine ol_r (r_pickT rfl hs20 rfl) rfl ?_
    refine ol_nil (to_k0 (fun _ _ h => h) (hK7 _ _ _ _ _ ?_))
    clear hK7
    refine wp_condT rfl ?_
    refine wp_seq' fun K8 hK8 => ?_
    refine wp_reg ?_
    refine ol_r (r_assign rfl) rfl ?_
    refine ol_r (r_assign rfl) rfl ?_
    refine ol_nil (to_k0 (fun _ _ h => h) (hK8 _ _ _ _ _ ?_))
    clear hK8
    refine hQ.ret (rvs2 (rv_t rfl) (rv_t rfl)) (fun _ _ h => h) fun w hb hs hB hkd => ?_
    have h9 : stillC slow least = 9 := if_neg (by simp_all)
    exact ⟨outT_no (by rw [stillR_9 hc16 (by rw [h9]; decide), h9]), hb⟩
   ·have phs20 := hs20; try simp only [decide_eq_true_eq, decide_eq_false_iff_not, Bool.not_eq_true', Bool.not_eq_false', Bool.not_true, Bool.not_false] at phs20
    refine ol_g rfl rfl hs20 ?_
    refine ol_r (r_move rfl) rfl ?_
    refine ol_g rfl rfl hs20 ?_
    refine ol_call rfl rfl cb45 rfl (fun w1 hb1 hs1 hB1 => Calls.mono (ref3_outside _ _ _ _) ?_)
    rintro e w2 ⟨rfl, hb2⟩
    refine After.below rfl hb1 hs1 hB1 hb2 ?_
    clear hb2 hB1 hs1 hb1 w2 w1
    refine ol_r (r_pickF rfl hs20 rfl) rfl ?_
    refine ol_nil (to_k0 (fun _ _ h => h) (hK7 _ _ _ _ _ ?_))
    clear hK7
    first | refine wp_condD rfl (fun hc23 => ?_) (fun hc23 => ?_) | refine wp_condN rfl (fun hc23 => ?_) (fun hc23 => ?_) | refine wp_condNB rfl (fun hc23 => ?_) (fun hc23 => ?_) | refine wp_cond' rfl (fun hc23 => ?_) (fun hc23 => ?_)
    ·refine wp_seq' fun K9 hK9 => ?_
     refine wp_reg ?_
     refine ol_r (r_assign rfl) rfl ?_
     refine ol_r (r_assign rfl) rfl ?_
     refine ol_nil (to_k0 (fun _ _ h => h) (hK9 _ _ _ _ _ ?_))
     clear hK9
     refine hQ.ret (rvs2 (rv_t rfl) (rv_t rfl)) (fun _ _ h => h) fun w hb hs hB hkd => ?_
     have h9 : stillC slow least = 9 := if_neg (by simp_all)
     exact ⟨outT_no (by rw [stillR_9 hc16 (by rw [h9]; decide), h9]), hb⟩
    ·refine wp_skip' (to_k0 (fun _ _ h => h) (hK6 _ _ _ _ _ ?_))
     clear hK6
     refine wp_seq' fun K10 hK10 => ?_
     refine wp_reg ?_
     refine ol_nilrow 9 4 1 ?_
     refine ol_r (r_assign rfl) rfl ?_
     refine ol_nil (to_k0 (fun _ _ h => h) (hK10 _ _ _ _ _ ?_))
     clear hK10
     refine wp_seq' fun K11 hK11 => ?_
     refine wp_seq' fun K12 hK12 => ?_
     refine wp_reg ?_
     refine ol_r (r_assign rfl) rfl ?_
     refine ol_nil (to_k0 (fun _ _ h => h) (hK12 _ _ _ _ _ ?_))
     clear hK12
     refine wp_block' ?_
     apply wp_loopM (σ := Nat × Option Addr × Nat) (fun s => s.1 ≤ A.ss.length - 1) (fun s => [(10, .int .i64 ((s.1 : Int) + 1)), (9, .slice s.2.1 s.1 s.2.2)]) [(1, _), (2, _), (3, _), (6, _), (7, _)] (fun s => [(9, .row s.2.1 s.1 s.2.2 (encBo.enc (mkL (stillM A.ss slow) s.1)) 4 1)]) [(3, _)] (fun s => A.ss.length - 1 - s.1) ((0, none, 0))
     ·try dsimp only
      exact Nat.zero_le _
     ·exact (sub_cons rfl (sub_cons rfl sub_nil))
     ·exact (sub_cons rfl (sub_cons rfl (sub_cons rfl (sub_cons rfl (sub_cons rfl sub_nil)))))
     ·exact (subH_row rfl (by first | (dsimp only; rfl; done) | (rfl; done) | (dsimp only; done)) subH_nil)
     ·exact (subH_same rfl subH_nil)
     ·rintro ⟨k, na, nc⟩ hk
      dsimp only at hk ⊢
      have e8 : ((k : Int) + 1).toNat = k + 1 := by omega
      have e8b : ((k : Int) + 1 - 1).toNat = k := by omega
      intro K13 hK13
      refine wp_seq' fun K14 hK14 => ?_
      refine wp_seq' fun K15 hK15 => ?_
      refine wp_reg ?_
      have hok : SmpOk A.start A.ss := (goodA (Decidable.not_not.1 hc16)).smp
      have hll := hok.len
      have hw : inB slow 0 100000 = true ∧ inB least 1 1000000 = true := by simp_all
      have hw1 := inB_iff.1 hw.1
      have hw2 := inB_iff.1 hw.2
      refine ol_r (r_move rfl) rfl ?_
      refine ol_r (r_fa (o' := 3) rfl fl26_3 rfl) rfl ?_
      refine ol_r (r_ld (id := 3) rfl rfl rfl sc22) rfl ?_
      refine ol_r (r_len rfl sl22) rfl ?_
      refine ol_r (r_lss rfl rfl) rfl ?_
      refine ol_nil (to_k0 (fun _ _ h => h) (hK15 _ _ _ _ _ ?_))
      clear hK15
      first | refine wp_condD rfl (fun hc28 => ?_) (fun hc28 => ?_) | refine wp_condN rfl (fun hc28 => ?_) (fun hc28 => ?_) | refine wp_condNB rfl (fun hc28 => ?_) (fun hc28 => ?_) | refine wp_cond' rfl (fun hc28 => ?_) (fun hc28 => ?_)
      ·refine wp_skip' (to_k0 (fun _ _ h => h) (hK14 _ _ _ _ _ ?_))
       clear hK14
       refine wp_seq' fun K16 hK16 => ?_
       refine wp_block' ?_
       refine wp_seq' fun K17 hK17 => ?_
       refine wp_rega [(999, [(3, _), (9, _)])] (by kernel_rfl) ⟨.inr (subH_same rfl (subH_same rfl subH_nil)), trivial⟩ ?_
       refine aq_r 0 999 rfl (by kernel_rfl) (by kernel_rfl) (by kernel_rfl) (.head _) (by kernel_rfl) (by kernel_rfl) rfl (r_fa (o' := 3) rfl fl26_3 rfl) ?_
       refine aq_r 1 999 rfl (by kernel_rfl) (by kernel_rfl) (by kernel_rfl) (.head _) (by kernel_rfl) (by kernel_rfl) rfl (r_ld (id := 3) rfl rfl rfl sc22) ?_
       refine aq_r 2 999 rfl (by kernel_rfl) (by kernel_rfl) (by kernel_rfl) (.head _) (by kernel_rfl) (by kernel_rfl) rfl (r_move rfl) ?_
       refine aq_r 3 999 rfl (by kernel_rfl) (by kernel_rfl) (by kernel_rfl) (.head _) (by kernel_rfl) (by kernel_rfl) rfl (r_sub rfl rfl (by omega)) ?_
       refine aq_ixr 4 999 rfl (by kernel_rfl) (by kernel_rfl) (by kernel_rfl) (.head _) (by kernel_rfl) (by kernel_rfl) rfl hA.s rfl rfl sl22 (by omega) fun x35 hx35 => ?_
       try simp only [Int.toNat_natCast] at hx35
       refine aq_r 5 999 rfl (by kernel_rfl) (by kernel_rfl) (by kernel_rfl) (.head _) (by kernel_rfl) (by kernel_rfl) rfl (r_ldw rfl (fun w1 hb1 hs1 hB1 => Rd.loads hA.s ty28 hx35 hb1)) ?_
       refine aq_r 6 999 rfl (by kernel_rfl) (by kernel_rfl) (by kernel_rfl) (.head _) (by kernel_rfl) (by kernel_rfl) rfl (r_fa (o' := 3) rfl fl26_3 rfl) ?_
       refine aq_r 7 999 rfl (by kernel_rfl) (by kernel_rfl) (by kernel_rfl) (.head _) (by kernel_rfl) (by kernel_rfl) rfl (r_ld (id := 3) rfl rfl rfl sc22) ?_
       refine aq_r 8 999 rfl (by kernel_rfl) (by kernel_rfl) (by kernel_rfl) (.head _) (by kernel_rfl) (by kernel_rfl) rfl (r_move rfl) ?_
       refine aq_ixr 9 999 rfl (by kernel_rfl) (by kernel_rfl) (by kernel_rfl) (.head _) (by kernel_rfl) (by kernel_rfl) rfl hA.s rfl rfl sl22 (by omega) fun x40 hx40 => ?_
       try simp only [Int.toNat_natCast] at hx40
       refine aq_r 10 999 rfl (by kernel_rfl) (by kernel_rfl) (by kernel_rfl) (.head _) (by kernel_rfl) (by kernel_rfl) rfl (r_ldw rfl (fun w1 hb1 hs1 hB1 => Rd.loads hA.s ty28 hx40 hb1)) ?_
       refine aq_two (i := 11) (j := 12) (by kernel_rfl) rfl rfl (fun K18 hK18 => ?_) (fun K18 hK18 => ?_)
       ·refine ol_alloc 11 z28 rfl fun b11 => ?_
        refine ol_nil (to_k0 (fun _ _ h => h) (hK18 _ _ ⟨.inr (by repeat' first | exact subH_nil | refine subH_same rfl ?_ | (refine subH_blk rfl (by repeat' first | exact sub_nil | refine sub_cons rfl ?_) ?_)), trivial⟩ ?_))
        clear hK18
        refine aq_one (i := 12) (by kernel_rfl) rfl fun K19 hK19 => ?_
        refine ol_alloc 12 z28 rfl fun b12 => ?_
        refine ol_nil (to_k0 (fun _ _ h => h) (hK19 _ _ ⟨.inr (by repeat' first | exact subH_nil | refine subH_same rfl ?_ | (refine subH_blk rfl (by repeat' first | exact sub_nil | refine sub_cons rfl ?_) ?_)), trivial⟩ ?_))
        clear hK19
        refine aq_one (i := 13) (by kernel_rfl) rfl fun K20 hK20 => ?_
        refine ol_store (id := 11) rfl rfl rfl rfl sz28 rfl rfl (by first | decide | exact Nat.zero_lt_succ _ | simp) ?_
        refine ol_nil (to_k0 (fun _ _ h => h) (hK20 _ _ ⟨.inr (by repeat' first | exact subH_nil | refine subH_same rfl ?_ | (refine subH_blk rfl (by repeat' first | exact sub_nil | refine sub_cons rfl ?_) ?_)), trivial⟩ ?_))
        clear hK20
        refine aq_one (i := 14) (by kernel_rfl) rfl fun K21 hK21 => ?_
        refine ol_store (id := 12) rfl rfl rfl rfl sz28 rfl rfl (by first | decide | exact Nat.zero_lt_succ _ | simp) ?_
        refine ol_nil (to_k0 (fun _ _ h => h) (hK21 _ _ ⟨.inr (by repeat' first | exact subH_nil | refine subH_same rfl ?_ | (refine subH_blk rfl (by repeat' first | exact sub_nil | refine sub_cons rfl ?_) ?_)), trivial⟩ ?_))
        clear hK21
        refine aq_done (by kernel_rfl) ?_
        refine (to_k0 (fun _ _ h => h) (hK17 _ _ _ _ _ ?_))
        clear hK17
        refine wp_rega [(999, [(3, _), (11, _), (12, _)]), (13, [(9, _)])] (by kernel_rfl) ⟨.inr (subH_same rfl (subH_same rfl (subH_same rfl subH_nil))), ⟨.inr (subH_same rfl subH_nil), trivial⟩⟩ ?_
        refine aq_r 0 999 rfl (by kernel_rfl) (by kernel_rfl) (by kernel_rfl) (.head _) (by kernel_rfl) (by kernel_rfl) rfl (r_move rfl) ?_
        refine aq_r 1 999 rfl (by kernel_rfl) (by kernel_rfl) (by kernel_rfl) (.head _) (by kernel_rfl) (by kernel_rfl) rfl (r_lda (id := 11) (n := 7) rfl rfl rfl ag28) ?_
        refine aq_r 2 999 rfl (by kernel_rfl) (by kernel_rfl) (by kernel_rfl) (.head _) (by kernel_rfl) (by kernel_rfl) rfl (r_lda (id := 12) (n := 7) rfl rfl rfl ag28) ?_
        refine aq_r 4 999 rfl (by kernel_rfl) (by kernel_rfl) (by kernel_rfl) (.head _) (by kernel_rfl) (by kernel_rfl) rfl (r_move rfl) ?_
        refine aq_r 5 999 rfl (by kernel_rfl) (by kernel_rfl) (by kernel_rfl) (.head _) (by kernel_rfl) (by kernel_rfl) rfl (r_fa (o' := 0) rfl fl28_0 rfl) ?_
        refine aq_r 6 999 rfl (by kernel_rfl) (by kernel_rfl) (by kernel_rfl) (.head _) (by kernel_rfl) (by kernel_rfl) rfl (r_ld (id := 12) rfl rfl rfl sc3) ?_
        refine aq_r 7 999 rfl (by kernel_rfl) (by kernel_rfl) (by kernel_rfl) (.head _) (by kernel_rfl) (by kernel_rfl) rfl (r_fa (o' := 0) rfl fl28_0 rfl) ?_
        refine aq_r 8 999 rfl (by kernel_rfl) (by kernel_rfl) (by kernel_rfl) (.head _) (by kernel_rfl) (by kernel_rfl) rfl (r_ld (id := 11) rfl rfl rfl sc3) ?_
        rw [e8] at hx40
        rw [e8b] at hx35
        have b27 := hok.bd _ (List.mem_of_getElem? hx40)
        have b34 := hok.bd _ (List.mem_of_getElem? hx35)
        have him := stillM_get (slow := slow) (stepsL_get hx35 hx40)
        have hsd := slow_bd hw1 (show -1000000 ≤ x40.at_ - x35.at_ ∧ x40.at_ - x35.at_ ≤ 1000000 by omega)
        refine aq_r 9 999 rfl (by kernel_rfl) (by kernel_rfl) (by kernel_rfl) (.head _) (by kernel_rfl) (by kernel_rfl) rfl (r_sub rfl rfl (by omega)) ?_
        refine aq_r 10 999 rfl (by kernel_rfl) (by kernel_rfl) (by kernel_rfl) (.head _) (by kernel_rfl) (by kernel_rfl) rfl (r_mul rfl rfl (by omega)) ?_
        refine aq_one (i := 3) (by kernel_rfl) rfl fun K22 hK22 => ?_
        refine ol_call rfl rfl cb75 rfl (fun w1 hb1 hs1 hB1 => Calls.mono (ref3_length x35 x40 _ (hok.place (List.mem_of_getElem? hx35)) (hok.place (List.mem_of_getElem? hx40))) ?_)
        rintro e w2 ⟨rfl, hb2⟩
        refine After.below rfl hb1 hs1 hB1 hb2 ?_
        clear hb2 hB1 hs1 hb1 w2 w1
        refine ol_nil (to_k0 (fun _ _ h => h) (hK22 _ _ ⟨.inr (by repeat' first | exact subH_nil | refine subH_same rfl ?_ | (refine subH_blk rfl (by repeat' first | exact sub_nil | refine sub_cons rfl ?_) ?_)), ⟨.inr (by repeat' first | exact subH_nil | refine subH_same rfl ?_ | (refine subH_blk rfl (by repeat' first | exact sub_nil | refine sub_cons rfl ?_) ?_)), trivial⟩⟩ ?_))
        clear hK22
        refine aq_r 11 999 rfl (by kernel_rfl) (by kernel_rfl) (by kernel_rfl) (.head _) (by kernel_rfl) (by kernel_rfl) rfl (r_leq rfl rfl) ?_
        refine aq_one (i := 12) (by kernel_rfl) rfl fun K23 hK23 => ?_
        refine ol_bs1 54 rfl rfl rw77 rfl rfl rfl fun a54 => ?_
        refine ol_nil (to_k0 (fun _ _ h => h) (hK23 _ _ ⟨.inr (by repeat' first | exact subH_nil | refine subH_same rfl ?_ | (refine subH_blk rfl (by repeat' first | exact sub_nil | refine sub_cons rfl ?_) ?_)), ⟨.inr (by repeat' first | exact subH_nil | refine subH_same rfl ?_ | (refine subH_blk rfl (by repeat' first | exact sub_nil | refine sub_cons rfl ?_) ?_)), trivial⟩⟩ ?_))
        clear hK23
        refine aq_one (i := 13) (by kernel_rfl) rfl fun K24 hK24 => ?_
        refine ol_append1 (id := 9) (id2 := 54) rfl rfl rfl rfl rfl rw77 (by omega) rfl fun a55 c55 => ?_
        refine ol_nil (to_k0 (fun _ _ h => h) (hK24 _ _ ⟨.inr (by repeat' first | exact subH_nil | refine subH_same rfl ?_ | (refine subH_blk rfl (by repeat' first | exact sub_nil | refine sub_cons rfl ?_) ?_)), ⟨.inl (by kernel_rfl), trivial⟩⟩ ?_))
        clear hK24
        refine aq_r 14 999 rfl (by kernel_rfl) (by kernel_rfl) (by kernel_rfl) (.head _) (by kernel_rfl) (by kernel_rfl) rfl (r_assign rfl) ?_
        refine aq_done (by kernel_rfl) ?_
        refine (to_k0 (fun _ _ h => h) (hK16 _ _ _ _ _ ?_))
        clear hK16
        refine wp_reg ?_
        refine ol_r (r_move rfl) rfl ?_
        refine ol_r (r_add rfl rfl (by omega)) rfl ?_
        refine ol_r (r_assign rfl) rfl ?_
        refine ol_nil (to_k0 (fun _ _ h => h) (hK13 ((k + 1, _, _)) _ _ ?_ ?_ (sub_cons rfl (sub_cons rfl sub_nil)) (sub_cons rfl (sub_cons rfl (sub_cons rfl (sub_cons rfl (sub_cons rfl sub_nil))))) (by exact (subH_row rfl (by first | (dsimp only; first | (rw [mkL_succ, him]; first | done | rfl) | rfl; done) | (first | (rw [mkL_succ, him]; first | done | rfl) | rfl; done) | (dsimp only; done)) subH_nil)) (subH_same rfl subH_nil)))
        ·try dsimp only
         omega
        ·try dsimp only
         omega
       ·refine ol_alloc 12 z28 rfl fun b12 => ?_
        refine ol_nil (to_k0 (fun _ _ h => h) (hK18 _ _ ⟨.inr (by repeat' first | exact subH_nil | refine subH_same rfl ?_ | (refine subH_blk rfl (by repeat' first | exact sub_nil | refine sub_cons rfl ?_) ?_)), trivial⟩ ?_))
        clear hK18
        refine aq_one (i := 11) (by kernel_rfl) rfl fun K19 hK19 => ?_
        refine ol_alloc 11 z28 rfl fun b11 => ?_
        refine ol_nil (to_k0 (fun _ _ h => h) (hK19 _ _ ⟨.inr (by repeat' first | exact subH_nil | refine subH_same rfl ?_ | (refine subH_blk rfl (by repeat' first | exact sub_nil | refine sub_cons rfl ?_) ?_)), trivial⟩ ?_))
        clear hK19
        refine aq_one (i := 13) (by kernel_rfl) rfl fun K20 hK20 => ?_
        refine ol_store (id := 11) rfl rfl rfl rfl sz28 rfl rfl (by first | decide | exact Nat.zero_lt_succ _ | simp) ?_
        refine ol_nil (to_k0 (fun _ _ h => h) (hK20 _ _ ⟨.inr (by repeat' first | exact subH_nil | refine subH_same rfl ?_ | (refine subH_blk rfl (by repeat' first | exact sub_nil | refine sub_cons rfl ?_) ?_)), trivial⟩ ?_))
        clear hK20
        refine aq_one (i := 14) (by kernel_rfl) rfl fun K21 hK21 => ?_
        refine ol_store (id := 12) rfl rfl rfl rfl sz28 rfl rfl (by first | decide | exact Nat.zero_lt_succ _ | simp) ?_
        refine ol_nil (to_k0 (fun _ _ h => h) (hK21 _ _ ⟨.inr (by repeat' first | exact subH_nil | refine subH_same rfl ?_ | (refine subH_blk rfl (by repeat' first | exact sub_nil | refine sub_cons rfl ?_) ?_)), trivial⟩ ?_))
        clear hK21
        refine aq_done (by kernel_rfl) ?_
        refine (to_k0 (fun _ _ h => h) (hK17 _ _ _ _ _ ?_))
        clear hK17
        refine wp_rega [(999, [(3, _), (11, _), (12, _)]), (13, [(9, _)])] (by kernel_rfl) ⟨.inr (subH_same rfl (subH_same rfl (subH_same rfl subH_nil))), ⟨.inr (subH_same rfl subH_nil), trivial⟩⟩ ?_
        refine aq_r 0 999 rfl (by kernel_rfl) (by kernel_rfl) (by kernel_rfl) (.head _) (by kernel_rfl) (by kernel_rfl) rfl (r_move rfl) ?_
        refine aq_r 1 999 rfl (by kernel_rfl) (by kernel_rfl) (by kernel_rfl) (.head _) (by kernel_rfl) (by kernel_rfl) rfl (r_lda (id := 11) (n := 7) rfl rfl rfl ag28) ?_
        refine aq_r 2 999 rfl (by kernel_rfl) (by kernel_rfl) (by kernel_rfl) (.head _) (by kernel_rfl) (by kernel_rfl) rfl (r_lda (id := 12) (n := 7) rfl rfl rfl ag28) ?_
        refine aq_r 4 999 rfl (by kernel_rfl) (by kernel_rfl) (by kernel_rfl) (.head _) (by kernel_rfl) (by kernel_rfl) rfl (r_move rfl) ?_
        refine aq_r 5 999 rfl (by kernel_rfl) (by kernel_rfl) (by kernel_rfl) (.head _) (by kernel_rfl) (by kernel_rfl) rfl (r_fa (o' := 0) rfl fl28_0 rfl) ?_
        refine aq_r 6 999 rfl (by kernel_rfl) (by kernel_rfl) (by kernel_rfl) (.head _) (by kernel_rfl) (by kernel_rfl) rfl (r_ld (id := 12) rfl rfl rfl sc3) ?_
        refine aq_r 7 999 rfl (by kernel_rfl) (by kernel_rfl) (by kernel_rfl) (.head _) (by kernel_rfl) (by kernel_rfl) rfl (r_fa (o' := 0) rfl fl28_0 rfl) ?_
        refine aq_r 8 999 rfl (by kernel_rfl) (by kernel_rfl) (by kernel_rfl) (.head _) (by kernel_rfl) (by kernel_rfl) rfl (r_ld (id := 11) rfl rfl rfl sc3) ?_
        rw [e8] at hx40
        rw [e8b] at hx35
        have b27 := hok.bd _ (List.mem_of_getElem? hx40)
        have b34 := hok.bd _ (List.mem_of_getElem? hx35)
        have him := stillM_get (slow := slow) (stepsL_get hx35 hx40)
        have hsd := slow_bd hw1 (show -1000000 ≤ x40.at_ - x35.at_ ∧ x40.at_ - x35.at_ ≤ 1000000 by omega)
        refine aq_r 9 999 rfl (by kernel_rfl) (by kernel_rfl) (by kernel_rfl) (.head _) (by kernel_rfl) (by kernel_rfl) rfl (r_sub rfl rfl (by omega)) ?_
        refine aq_r 10 999 rfl (by kernel_rfl) (by kernel_rfl) (by kernel_rfl) (.head _) (by kernel_rfl) (by kernel_rfl) rfl (r_mul rfl rfl (by omega)) ?_
        refine aq_one (i := 3) (by kernel_rfl) rfl fun K22 hK22 => ?_
        refine ol_call rfl rfl cb75 rfl (fun w1 hb1 hs1 hB1 => Calls.mono (ref3_length x35 x40 _ (hok.place (List.mem_of_getElem? hx35)) (hok.place (List.mem_of_getElem? hx40))) ?_)
        rintro e w2 ⟨rfl, hb2⟩
        refine After.below rfl hb1 hs1 hB1 hb2 ?_
        clear hb2 hB1 hs1 hb1 w2 w1
        refine ol_nil (to_k0 (fun _ _ h => h) (hK22 _ _ ⟨.inr (by repeat' first | exact subH_nil | refine subH_same rfl ?_ | (refine subH_blk rfl (by repeat' first | exact sub_nil | refine sub_cons rfl ?_) ?_)), ⟨.inr (by repeat' first | exact subH_nil | refine subH_same rfl ?_ | (refine subH_blk rfl (by repeat' first | exact sub_nil | refine sub_cons rfl ?_) ?_)), trivial⟩⟩ ?_))
        clear hK22
        refine aq_r 11 999 rfl (by kernel_rfl) (by kernel_rfl) (by kernel_rfl) (.head _) (by kernel_rfl) (by kernel_rfl) rfl (r_leq rfl rfl) ?_
        refine aq_one (i := 12) (by kernel_rfl) rfl fun K23 hK23 => ?_
        refine ol_bs1 54 rfl rfl rw77 rfl rfl rfl fun a54 => ?_
        refine ol_nil (to_k0 (fun _ _ h => h) (hK23 _ _ ⟨.inr (by repeat' first | exact subH_nil | refine subH_same rfl ?_ | (refine subH_blk rfl (by repeat' first | exact sub_nil | refine sub_cons rfl ?_) ?_)), ⟨.inr (by repeat' first | exact subH_nil | refine subH_same rfl ?_ | (refine subH_blk rfl (by repeat' first | exact sub_nil | refine sub_cons rfl ?_) ?_)), trivial⟩⟩ ?_))
        clear hK23
        refine aq_one (i := 13) (by kernel_rfl) rfl fun K24 hK24 => ?_
        refine ol_append1 (id := 9) (id2 := 54) rfl rfl rfl rfl rfl rw77 (by omega) rfl fun a55 c55 => ?_
        refine ol_nil (to_k0 (fun _ _ h => h) (hK24 _ _ ⟨.inr (by repeat' first | exact subH_nil | refine subH_same rfl ?_ | (refine subH_blk rfl (by repeat' first | exact sub_nil | refine sub_cons rfl ?_) ?_)), ⟨.inl (by kernel_rfl), trivial⟩⟩ ?_))
        clear hK24
        refine aq_r 14 999 rfl (by kernel_rfl) (by kernel_rfl) (by kernel_rfl) (.head _) (by kernel_rfl) (by kernel_rfl) rfl (r_assign rfl) ?_
        refine aq_done (by kernel_rfl) ?_
        refine (to_k0 (fun _ _ h => h) (hK16 _ _ _ _ _ ?_))
        clear hK16
        refine wp_reg ?_
        refine ol_r (r_move rfl) rfl ?_
        refine ol_r (r_add rfl rfl (by omega)) rfl ?_
        refine ol_r (r_assign rfl) rfl ?_
        refine ol_nil (to_k0 (fun _ _ h => h) (hK13 ((k + 1, _, _)) _ _ ?_ ?_ (sub_cons rfl (sub_cons rfl sub_nil)) (sub_cons rfl (sub_cons rfl (sub_cons rfl (sub_cons rfl (sub_cons rfl sub_nil))))) (by exact (subH_row rfl (by first | (dsimp only; first | (rw [mkL_succ, him]; first | done | rfl) | rfl; done) | (first | (rw [mkL_succ, him]; first | done | rfl) | rfl; done) | (dsimp only; done)) subH_nil)) (subH_same rfl subH_nil)))
        ·try dsimp only
         omega
        ·try dsimp only
         omega
      ·refine wp_exit' (to_k0 (fun _ _ h => h) (hK11 _ _ _ _ _ ?_))
       clear hK11
       refine wp_seq' fun K25 hK25 => ?_
       refine wp_reg ?_
       refine ol_r (r_lda (id := 3) (n := 6) rfl rfl rfl ag26) rfl ?_
       refine ol_r (r_move rfl) rfl ?_
       refine ol_r (r_move rfl) rfl ?_
       refine ol_call rfl rfl cb72 rfl (fun w1 hb1 hs1 hB1 => ?_)
       have hkk : k = A.ss.length - 1 := by omega
       subst hkk
       refine Calls.mono (ref3_rows A (stillM A.ss slow) _ _ _ least _ (hA.at hb1 hB1) hok (hs1.rd (id := 9) rfl rfl)) ?_
       rintro e w2 ⟨⟨a, c, rfl, hs2⟩, hb2⟩
       refine After.more rfl hb1 hs1 hB1 hb2 hs2 ?_
       clear hs2 hb2 hB1 hs1 hb1 w2 w1
       refine ol_r (r_assign rfl) rfl ?_
       refine ol_r (r_assign rfl) rfl ?_
       refine ol_nil (to_k0 (fun _ _ h => h) (hK25 _ _ _ _ _ ?_))
       clear hK25
       refine hQ.ret (rvs2 (rv_t rfl) (rv_t rfl)) (fun _ _ h => h) fun w hb hs hB hkd => ?_
       have h0 : stillC slow least = 0 := if_pos hw
       refine ⟨?_, hb⟩
       rw [stillR_0 hc16 (by rw [h0]; decide)]
       exact ⟨a, c, rfl, hs.one 1001 1001 rfl (Ent.le_refl _)⟩
end Go.Proofs.Ytogcclagmobkiaa
