/-
  How long a way takes: program and reference.
-/
import Derived.Test.YtamlldedmhkobaaRace
namespace Go.Proofs.Ytamlldedmhkobaa
open Go Go.RowKit Hx
set_option linter.unusedVariables false
set_option linter.unusedSimpArgs false
set_option maxRecDepth 8000
theorem race_up {xs : List RaceR} (h : RacesOk xs) {i : Nat} {p : RaceR} (hp : xs[i]? = some p) : ∀ (d : Nat) (q : RaceR), xs[i + d]? = some q → p.way ≤ q.way
  | 0, q, hq => by rw [Nat.add_zero, hp] at hq; cases hq; omega
  | d + 1, q, hq => by
    have hlt := (List.getElem?_eq_some_iff.1 hq).1
    have h1 : xs[i + d]? = some (xs[i + d]'(by omega)) := List.getElem?_eq_getElem _
    have h2 := race_up h hp d _ h1
    have h3 := h.rise (i + d) _ q h1 hq
    omega
theorem race_skip {sl x : Int} {xs : List RaceR} {k : Nat} (h : RacesOk xs) (hP : RPlace xs x k) : predL sl x none xs = predL sl x (ahead xs k) (xs.drop k) := by
  refine predL_skip k hP.le fun j b hj hb => ?_
  rcases hP.low with h1 | ⟨a, ha, hat⟩
  · omega
  · have := race_up h hb (k - 1 - j) a (by rw [show j + (k - 1 - j) = k - 1 by omega]; exact ha)
    omega
theorem load_predict (a : Option Addr) (n cap : Nat) (xs : List RaceR) (x sl : Int) (w : World) (hl : Rd encRace w.heap.size w a n cap xs) (hok : RacesOk xs) (hx : 1 ≤ x ∧ x ≤ 10000000) (hs : 0 ≤ sl ∧ sl ≤ 200) :
    Calls Try.prog 82 #[.slice a n cap, .int .i64 x, .int .i64 sl] w fun e w' => e = .returned (.int .i64 (predL sl x none xs)) ∧ Below w.heap.size w w' := by
  have hn := hl.len
  have hl50 := hok.len
  have hlp := hok.pos
  refine enterQ (N := 111) (C := fun _ => True) (H := []) (B := w.heap.size) (args := [_, _, _]) Try.func82 rfl rfl rfl (Nat.le_refl _) (Sat.nil _ _) fun Q hQ => ?_
  refine wp_seq' fun K1 hK1 => ?_
  refine wp_reg ?_
  refine ol_r (r_assign rfl) rfl ?_
  refine ol_nil (to_k0 (fun _ _ h => h) (hK1 _ _ _ _ _ ?_))
  clear hK1
  refine wp_seq' fun K2 hK2 => ?_
  refine wp_reg ?_
  refine ol_r (r_move rfl) rfl ?_
  refine ol_r (r_move rfl) rfl ?_
  refine ol_call rfl rfl cb93 rfl (fun w1 hb1 hs1 hB1 => ?_)
  refine Calls.mono (binarySearch_race _ _ _ xs _ _ (hl.at hb1 hB1) (by omega)) ?_
  rintro e w2 ⟨k, ok, hPl, hok2, rfl, hb2⟩
  refine After.below rfl hb1 hs1 hB1 hb2 ?_
  clear hb2 hB1 hs1 hb1 w2 w1
  have hP := race_skip (sl := sl) hok hPl
  have hkle := hPl.le
  refine ol_r (r_move rfl) rfl ?_
  refine ol_r (r_extract rfl rfl) rfl ?_
  refine ol_r (r_extract rfl rfl) rfl ?_
  refine ol_r (r_assign rfl) rfl ?_
  refine ol_r (r_assign rfl) rfl ?_
  refine ol_nil (to_k0 (fun _ _ h => h) (hK2 _ _ _ _ _ ?_))
  clear hK2
  refine wp_seq' fun K3 hK3 => ?_
  refine wp_block' ?_
  refine wp_seq' fun K4 hK4 => ?_
  refine wp_reg ?_
  refine ol_r (r_move rfl) rfl ?_
  refine ol_r (r_assign rfl) rfl ?_
  refine ol_nil (to_k0 (fun _ _ h => h) (hK4 _ _ _ _ _ ?_))
  clear hK4
  first | refine wp_condD rfl (fun hc18 => ?_) (fun hc18 => ?_) | refine wp_condN rfl (fun hc18 => ?_) (fun hc18 => ?_) | refine wp_condNB rfl (fun hc18 => ?_) (fun hc18 => ?_) | refine wp_cond' rfl (fun hc18 => ?_) (fun hc18 => ?_)
  ·refine wp_seq' fun K5 hK5 => ?_
   refine wp_reg ?_
   refine ol_r (r_move rfl) rfl ?_
   obtain ⟨y, hy, hyt⟩ := hok2.1 hc18
   have hkl := (List.getElem?_eq_some_iff.1 hy).1
   refine ol_r (r_move rfl) rfl ?_
   refine ol_ixr hl rfl rfl sl71 (by omega) rfl fun x22 hx22 => ?_
   try simp only [Int.toNat_natCast] at hx22
   refine ol_r (r_faw rfl (ix_some hl (by omega)) fl101_1) rfl ?_
   refine ol_r (r_ldw rfl (fun w1 hb1 hs1 hB1 => Rd.loadsF (o := 1) hl sc3 hx22 hb1 rfl)) rfl ?_
   refine ol_r (r_assign rfl) rfl ?_
   refine ol_nil (to_k0 (fun _ _ h => h) (hK5 _ _ _ _ _ ?_))
   clear hK5
   refine hQ.ret (rvs1 (rv_t rfl)) (fun _ _ h => h) fun w hb hs hB hkd => ?_
   rw [hy] at hx22
   cases hx22
   exact ⟨by rw [predL_hit hP hy hyt.symm], hb⟩
  ·refine wp_seq' fun K6 hK6 => ?_
   refine wp_reg ?_
   refine ol_r (r_move rfl) rfl ?_
   refine ol_r (r_eql rfl rfl) rfl ?_
   refine ol_r (r_assign rfl) rfl ?_
   refine ol_nil (to_k0 (fun _ _ h => h) (hK6 _ _ _ _ _ ?_))
   clear hK6
   first | refine wp_condD rfl (fun hc25 => ?_) (fun hc25 => ?_) | refine wp_condN rfl (fun hc25 => ?_) (fun hc25 => ?_) | refine wp_condNB rfl (fun hc25 => ?_) (fun hc25 => ?_) | refine wp_cond' rfl (fun hc25 => ?_) (fun hc25 => ?_)
   ·refine wp_seq' fun K7 hK7 => ?_
    refine wp_regq (by kernel_rfl) (by kernel_rfl) ?_
    refine ql_r (r_move rfl) rfl ?_
    refine ql_r (r_move rfl) rfl ?_
    refine ql_ixr hl rfl rfl sl71 (by omega) rfl fun x30 hx30 => ?_
    try simp only [Int.toNat_natCast] at hx30
    refine ql_r (r_faw rfl (ix_some hl (by omega)) fl101_1) rfl ?_
    refine ql_r (r_ldw rfl (fun w1 hb1 hs1 hB1 => Rd.loadsF (o := 1) hl sc3 hx30 hb1 rfl)) rfl ?_
    have hb30 := hok.bd x30 (List.mem_of_getElem? hx30)
    have hm := mul_bd (a := x) (b := x30.sec) (by omega) hx.2 (by omega) hb30.2.2
    refine ql_r (r_mul rfl rfl (by omega)) rfl ?_
    refine ql_r (r_move rfl) rfl ?_
    refine ql_ixr hl rfl rfl sl71 (by omega) rfl fun x35 hx35 => ?_
    try simp only [Int.toNat_natCast] at hx35
    refine ql_r (r_faw rfl (ix_some hl (by omega)) fl101_0) rfl ?_
    refine ql_r (r_ldw rfl (fun w1 hb1 hs1 hB1 => Rd.loadsF (o := 0) hl sc3 hx35 hb1 rfl)) rfl ?_
    have h35 : x35 = x30 := by rw [hx30] at hx35; cases hx35; rfl
    subst h35
    first | refine ql_r (r_quo rfl rfl (by omega)) rfl ?_ | refine ql_r (r_tquo rfl rfl (by omega)) rfl ?_
    refine ql_r (r_max rfl rfl) rfl ?_
    refine ql_r (r_assign rfl) rfl ?_
    refine ql_nil (to_k0 (fun _ _ h => h) (hK7 _ _ _ _ _ ?_))
    clear hK7
    refine hQ.ret (rvs1 (rv_t rfl)) (fun _ _ h => h) fun w hb hs hB hkd => ?_
    have hk0 : k = 0 := by omega
    subst hk0
    have hlt : x < x35.way := by
      rcases hPl.high with h | ⟨y, hy, hyt⟩
      · omega
      · rw [show xs[0]? = some x35 from hx30] at hy
        cases hy
        by_cases he : x35.way = x
        · have := hok2.2 ⟨_, hx30, he⟩
          rw [this] at hc18
          cases hc18
        · omega
    exact ⟨by rw [predL_first hP hx30 hlt, Int.max_comm], hb⟩
   ·refine wp_seq' fun K8 hK8 => ?_
    refine wp_reg ?_
    refine ol_r (r_move rfl) rfl ?_
    refine ol_r (r_move rfl) rfl ?_
    refine ol_r (r_len rfl sl71) rfl ?_
    refine ol_r (r_lss rfl rfl) rfl ?_
    refine ol_r (r_assign rfl) rfl ?_
    refine ol_nil (to_k0 (fun _ _ h => h) (hK8 _ _ _ _ _ ?_))
    clear hK8
    first | refine wp_condD rfl (fun hc40 => ?_) (fun hc40 => ?_) | refine wp_condN rfl (fun hc40 => ?_) (fun hc40 => ?_) | refine wp_condNB rfl (fun hc40 => ?_) (fun hc40 => ?_) | refine wp_cond' rfl (fun hc40 => ?_) (fun hc40 => ?_)
    ·refine wp_seq' fun K9 hK9 => ?_
     refine wp_rega [(999, [])] (by kernel_rfl) ⟨.inr subH_nil, trivial⟩ ?_
     refine aq_r 0 999 rfl (by kernel_rfl) (by kernel_rfl) (by kernel_rfl) (.head _) (by kernel_rfl) (by kernel_rfl) rfl (r_move rfl) ?_
     refine aq_r 1 999 rfl (by kernel_rfl) (by kernel_rfl) (by kernel_rfl) (.head _) (by kernel_rfl) (by kernel_rfl) rfl (r_move rfl) ?_
     refine aq_r 2 999 rfl (by kernel_rfl) (by kernel_rfl) (by kernel_rfl) (.head _) (by kernel_rfl) (by kernel_rfl) rfl (r_sub rfl rfl (by omega)) ?_
     refine aq_ixr 3 999 rfl (by kernel_rfl) (by kernel_rfl) (by kernel_rfl) (.head _) (by kernel_rfl) (by kernel_rfl) rfl hl rfl rfl sl71 (by omega) fun x48 hx48 => ?_
     try simp only [Int.toNat_natCast] at hx48
     refine aq_r 4 999 rfl (by kernel_rfl) (by kernel_rfl) (by kernel_rfl) (.head _) (by kernel_rfl) (by kernel_rfl) rfl (r_ldw rfl (fun w1 hb1 hs1 hB1 => Rd.loads hl ty101 hx48 hb1)) ?_
     refine aq_r 5 999 rfl (by kernel_rfl) (by kernel_rfl) (by kernel_rfl) (.head _) (by kernel_rfl) (by kernel_rfl) rfl (r_move rfl) ?_
     refine aq_r 6 999 rfl (by kernel_rfl) (by kernel_rfl) (by kernel_rfl) (.head _) (by kernel_rfl) (by kernel_rfl) rfl (r_move rfl) ?_
     refine aq_ixr 7 999 rfl (by kernel_rfl) (by kernel_rfl) (by kernel_rfl) (.head _) (by kernel_rfl) (by kernel_rfl) rfl hl rfl rfl sl71 (by omega) fun x52 hx52 => ?_
     try simp only [Int.toNat_natCast] at hx52
     refine aq_r 8 999 rfl (by kernel_rfl) (by kernel_rfl) (by kernel_rfl) (.head _) (by kernel_rfl) (by kernel_rfl) rfl (r_ldw rfl (fun w1 hb1 hs1 hB1 => Rd.loads hl ty101 hx52 hb1)) ?_
     refine aq_two (i := 9) (j := 10) (by kernel_rfl) rfl rfl (fun K10 hK10 => ?_) (fun K10 hK10 => ?_)
     ·refine ol_alloc 9 z101 rfl fun b9 => ?_
      refine ol_nil (to_k0 (fun _ _ h => h) (hK10 _ _ ⟨.inr (by repeat' first | exact subH_nil | refine subH_same rfl ?_ | (refine subH_blk rfl (by repeat' first | exact sub_nil | refine sub_cons rfl ?_) ?_)), trivial⟩ ?_))
      clear hK10
      refine aq_one (i := 10) (by kernel_rfl) rfl fun K11 hK11 => ?_
      refine ol_alloc 10 z101 rfl fun b10 => ?_
      refine ol_nil (to_k0 (fun _ _ h => h) (hK11 _ _ ⟨.inr (by repeat' first | exact subH_nil | refine subH_same rfl ?_ | (refine subH_blk rfl (by repeat' first | exact sub_nil | refine sub_cons rfl ?_) ?_)), trivial⟩ ?_))
      clear hK11
      refine aq_one (i := 11) (by kernel_rfl) rfl fun K12 hK12 => ?_
      refine ol_store (id := 9) rfl rfl rfl rfl sz101 rfl rfl (by first | decide | exact Nat.zero_lt_succ _ | simp) ?_
      refine ol_nil (to_k0 (fun _ _ h => h) (hK12 _ _ ⟨.inr (by repeat' first | exact subH_nil | refine subH_same rfl ?_ | (refine subH_blk rfl (by repeat' first | exact sub_nil | refine sub_cons rfl ?_) ?_)), trivial⟩ ?_))
      clear hK12
      refine aq_one (i := 12) (by kernel_rfl) rfl fun K13 hK13 => ?_
      refine ol_store (id := 10) rfl rfl rfl rfl sz101 rfl rfl (by first | decide | exact Nat.zero_lt_succ _ | simp) ?_
      refine ol_nil (to_k0 (fun _ _ h => h) (hK13 _ _ ⟨.inr (by repeat' first | exact subH_nil | refine subH_same rfl ?_ | (refine subH_blk rfl (by repeat' first | exact sub_nil | refine sub_cons rfl ?_) ?_)), trivial⟩ ?_))
      clear hK13
      refine aq_done (by kernel_rfl) ?_
      refine (to_k0 (fun _ _ h => h) (hK9 _ _ _ _ _ ?_))
      clear hK9
      refine wp_seq' fun K14 hK14 => ?_
      refine wp_regq (by kernel_rfl) (by kernel_rfl) ?_
      refine ql_r (r_fa (o' := 1) rfl fl101_1 rfl) rfl ?_
      refine ql_r (r_ld (id := 9) rfl rfl rfl sc3) rfl ?_
      refine ql_r (r_move rfl) rfl ?_
      refine ql_r (r_fa (o' := 0) rfl fl101_0 rfl) rfl ?_
      refine ql_r (r_ld (id := 9) rfl rfl rfl sc3) rfl ?_
      have hb48 := hok.bd x48 (List.mem_of_getElem? hx48)
      have hb52 := hok.bd x52 (List.mem_of_getElem? hx52)
      have hrr := hok.rise (k - 1) x48 x52 (by rw [← hx48]; congr 1; omega) (by rw [show k - 1 + 1 = k by omega]; exact hx52)
      have hax : x48.way < x := by
        rcases hPl.low with h | ⟨y, hy, hyt⟩
        · omega
        · have h77 : xs[k - 1]? = some x48 := by rw [← hx48]; congr 1; omega
          rw [h77] at hy
          cases hy
          exact hyt
      have hmb := mul_bd (a := x - x48.way) (b := x52.sec - x48.sec) (by omega) (show _ ≤ 10000000 by omega) (by omega) (show _ ≤ 1000000 by omega)
      have hqb : (x - x48.way) * (x52.sec - x48.sec) / (x52.way - x48.way) ≤ (x - x48.way) * (x52.sec - x48.sec) := Int.ediv_le_self _ hmb.1
      have hqb0 : 0 ≤ (x - x48.way) * (x52.sec - x48.sec) / (x52.way - x48.way) := Int.ediv_nonneg hmb.1 (by omega)
      refine ql_r (r_sub rfl rfl (by omega)) rfl ?_
      refine ql_r (r_fa (o' := 1) rfl fl101_1 rfl) rfl ?_
      refine ql_r (r_ld (id := 10) rfl rfl rfl sc3) rfl ?_
      refine ql_r (r_fa (o' := 1) rfl fl101_1 rfl) rfl ?_
      refine ql_r (r_ld (id := 9) rfl rfl rfl sc3) rfl ?_
      refine ql_r (r_sub rfl rfl (by omega)) rfl ?_
      refine ql_r (r_mul rfl rfl (by omega)) rfl ?_
      refine ql_r (r_fa (o' := 0) rfl fl101_0 rfl) rfl ?_
      refine ql_r (r_ld (id := 10) rfl rfl rfl sc3) rfl ?_
      refine ql_r (r_fa (o' := 0) rfl fl101_0 rfl) rfl ?_
      refine ql_r (r_ld (id := 9) rfl rfl rfl sc3) rfl ?_
      refine ql_r (r_sub rfl rfl (by omega)) rfl ?_
      first | refine ql_r (r_quo rfl rfl (by omega)) rfl ?_ | refine ql_r (r_tquo rfl rfl (by omega)) rfl ?_
      refine ql_r (r_add rfl rfl (by omega)) rfl ?_
      refine ql_r (r_assign rfl) rfl ?_
      refine ql_nil (to_k0 (fun _ _ h => h) (hK14 _ _ _ _ _ ?_))
      clear hK14
      refine hQ.ret (rvs1 (rv_t rfl)) (fun _ _ h => h) fun w hb hs hB hkd => ?_
      have hlt : x < x52.way := by
        rcases hPl.high with h | ⟨y, hy, hyt⟩
        · omega
        · rw [hx52] at hy
          cases hy
          by_cases he : x52.way = x
          · have := hok2.2 ⟨_, hx52, he⟩
            rw [this] at hc18
            cases hc18
          · omega
      exact ⟨by rw [predL_seg hP (by omega) (by rw [← hx48]; congr 1; omega) hx52 hlt]; rfl, hb⟩
     ·refine ol_alloc 10 z101 rfl fun b10 => ?_
      refine ol_nil (to_k0 (fun _ _ h => h) (hK10 _ _ ⟨.inr (by repeat' first | exact subH_nil | refine subH_same rfl ?_ | (refine subH_blk rfl (by repeat' first | exact sub_nil | refine sub_cons rfl ?_) ?_)), trivial⟩ ?_))
      clear hK10
      refine aq_one (i := 9) (by kernel_rfl) rfl fun K11 hK11 => ?_
      refine ol_alloc 9 z101 rfl fun b9 => ?_
      refine ol_nil (to_k0 (fun _ _ h => h) (hK11 _ _ ⟨.inr (by repeat' first | exact subH_nil | refine subH_same rfl ?_ | (refine subH_blk rfl (by repeat' first | exact sub_nil | refine sub_cons rfl ?_) ?_)), trivial⟩ ?_))
      clear hK11
      refine aq_one (i := 11) (by kernel_rfl) rfl fun K12 hK12 => ?_
      refine ol_store (id := 9) rfl rfl rfl rfl sz101 rfl rfl (by first | decide | exact Nat.zero_lt_succ _ | simp) ?_
      refine ol_nil (to_k0 (fun _ _ h => h) (hK12 _ _ ⟨.inr (by repeat' first | exact subH_nil | refine subH_same rfl ?_ | (refine subH_blk rfl (by repeat' first | exact sub_nil | refine sub_cons rfl ?_) ?_)), trivial⟩ ?_))
      clear hK12
      refine aq_one (i := 12) (by kernel_rfl) rfl fun K13 hK13 => ?_
      refine ol_store (id := 10) rfl rfl rfl rfl sz101 rfl rfl (by first | decide | exact Nat.zero_lt_succ _ | simp) ?_
      refine ol_nil (to_k0 (fun _ _ h => h) (hK13 _ _ ⟨.inr (by repeat' first | exact subH_nil | refine subH_same rfl ?_ | (refine subH_blk rfl (by repeat' first | exact sub_nil | refine sub_cons rfl ?_) ?_)), trivial⟩ ?_))
      clear hK13
      refine aq_done (by kernel_rfl) ?_
      refine (to_k0 (fun _ _ h => h) (hK9 _ _ _ _ _ ?_))
      clear hK9
      refine wp_seq' fun K14 hK14 => ?_
      refine wp_regq (by kernel_rfl) (by kernel_rfl) ?_
      refine ql_r (r_fa (o' := 1) rfl fl101_1 rfl) rfl ?_
      refine ql_r (r_ld (id := 9) rfl rfl rfl sc3) rfl ?_
      refine ql_r (r_move rfl) rfl ?_
      refine ql_r (r_fa (o' := 0) rfl fl101_0 rfl) rfl ?_
      refine ql_r (r_ld (id := 9) rfl rfl rfl sc3) rfl ?_
      have hb48 := hok.bd x48 (List.mem_of_getElem? hx48)
      have hb52 := hok.bd x52 (List.mem_of_getElem? hx52)
      have hrr := hok.rise (k - 1) x48 x52 (by rw [← hx48]; congr 1; omega) (by rw [show k - 1 + 1 = k by omega]; exact hx52)
      have hax : x48.way < x := by
        rcases hPl.low with h | ⟨y, hy, hyt⟩
        · omega
        · have h77 : xs[k - 1]? = some x48 := by rw [← hx48]; congr 1; omega
          rw [h77] at hy
          cases hy
          exact hyt
      have hmb := mul_bd (a := x - x48.way) (b := x52.sec - x48.sec) (by omega) (show _ ≤ 10000000 by omega) (by omega) (show _ ≤ 1000000 by omega)
      have hqb : (x - x48.way) * (x52.sec - x48.sec) / (x52.way - x48.way) ≤ (x - x48.way) * (x52.sec - x48.sec) := Int.ediv_le_self _ hmb.1
      have hqb0 : 0 ≤ (x - x48.way) * (x52.sec - x48.sec) / (x52.way - x48.way) := Int.ediv_nonneg hmb.1 (by omega)
      refine ql_r (r_sub rfl rfl (by omega)) rfl ?_
      refine ql_r (r_fa (o' := 1) rfl fl101_1 rfl) rfl ?_
      refine ql_r (r_ld (id := 10) rfl rfl rfl sc3) rfl ?_
      refine ql_r (r_fa (o' := 1) rfl fl101_1 rfl) rfl ?_
      refine ql_r (r_ld (id := 9) rfl rfl rfl sc3) rfl ?_
      refine ql_r (r_sub rfl rfl (by omega)) rfl ?_
      refine ql_r (r_mul rfl rfl (by omega)) rfl ?_
      refine ql_r (r_fa (o' := 0) rfl fl101_0 rfl) rfl ?_
      refine ql_r (r_ld (id := 10) rfl rfl rfl sc3) rfl ?_
      refine ql_r (r_fa (o' := 0) rfl fl101_0 rfl) rfl ?_
      refine ql_r (r_ld (id := 9) rfl rfl rfl sc3) rfl ?_
      refine ql_r (r_sub rfl rfl (by omega)) rfl ?_
      first | refine ql_r (r_quo rfl rfl (by omega)) rfl ?_ | refine ql_r (r_tquo rfl rfl (by omega)) rfl ?_
      refine ql_r (r_add rfl rfl (by omega)) rfl ?_
      refine ql_r (r_assign rfl) rfl ?_
      refine ql_nil (to_k0 (fun _ _ h => h) (hK14 _ _ _ _ _ ?_))
      clear hK14
      refine hQ.ret (rvs1 (rv_t rfl)) (fun _ _ h => h) fun w hb hs hB hkd => ?_
      have hlt : x < x52.way := by
        rcases hPl.high with h | ⟨y, hy, hyt⟩
        · omega
        · rw [hx52] at hy
          cases hy
          by_cases he : x52.way = x
          · have := hok2.2 ⟨_, hx52, he⟩
            rw [this] at hc18
            cases hc18
          · omega
      exact ⟨by rw [predL_seg hP (by omega) (by rw [← hx48]; congr 1; omega) hx52 hlt]; rfl, hb⟩
    ·refine wp_skip' (to_k0 (fun _ _ h => h) (hK3 _ _ _ _ _ ?_))
     clear hK3
     refine wp_seq' fun K15 hK15 => ?_
     refine wp_reg ?_
     refine ol_r (r_move rfl) rfl ?_
     refine ol_r (r_move rfl) rfl ?_
     refine ol_r (r_len rfl sl71) rfl ?_
     refine ol_r (r_sub rfl rfl (by omega)) rfl ?_
     refine ol_ixr hl rfl rfl sl71 (by omega) rfl fun x77 hx77 => ?_
     try simp only [Int.toNat_natCast] at hx77
     have hb77 := hok.bd x77 (List.mem_of_getElem? hx77)
     have hkn : k = xs.length := by omega
     have hax : x77.way ≤ x := by
       rcases hPl.low with h | ⟨y, hy, hyt⟩
       · omega
       · have h77 : xs[k - 1]? = some x77 := by rw [← hx77]; congr 1; omega
         rw [h77] at hy
         cases hy
         omega
     refine ol_r (r_ldw rfl (fun w1 hb1 hs1 hB1 => Rd.loads hl ty101 hx77 hb1)) rfl ?_
     refine ol_alloc 11 z101 rfl fun b11 => ?_
     refine ol_store (id := 11) rfl rfl rfl rfl sz101 rfl rfl (by first | decide | exact Nat.zero_lt_succ _ | simp) ?_
     refine ol_nil (to_k0 (fun _ _ h => h) (hK15 _ _ _ _ _ ?_))
     clear hK15
     refine wp_seq' fun K16 hK16 => ?_
     refine wp_block' ?_
     apply wp_loopM (σ := Int × Int × Nat) (fun s => DblOk sl x (predL sl x none xs) s.1 s.2.1 s.2.2) (fun s => []) [(1, _), (2, _), (6, _), (11, _)] (fun s => [(11, .blk b11 [(0, .int .i64 s.1), (1, .int .i64 s.2.1)] 101)]) [] (fun s => s.2.2) ((x77.way, x77.sec, 14))
     ·try dsimp only
      exact DblOk.start hx.2 hax hb77 (predL_last hP (by omega) (by omega) (by rw [← hx77]; congr 1; omega))
     ·exact sub_nil
     ·exact (sub_cons rfl (sub_cons rfl (sub_cons rfl (sub_cons rfl sub_nil))))
     ·exact (subH_blk rfl (sub_cons rfl (sub_cons rfl sub_nil)) subH_nil)
     ·exact subH_nil
     ·rintro ⟨w_, s, f⟩ hD
      dsimp only at hD ⊢
      have hbt := bT_le (j := 14 - f) (by omega)
      have hDs := hD.sbd
      have hDw := hD.wge
      have hDx := hD.wx
      have hdb := dblS_bd hDs.1 hs
      have hmb := mul_bd (a := x - w_) (b := dblS s sl - s) (by omega) (show _ ≤ 10000000 by omega) (by omega) (show _ ≤ 900000000000 by omega)
      have hqb : (x - w_) * (dblS s sl - s) / w_ ≤ (x - w_) * (dblS s sl - s) := Int.ediv_le_self _ hmb.1
      have hqb0 : 0 ≤ (x - w_) * (dblS s sl - s) / w_ := Int.ediv_nonneg hmb.1 (by omega)
      intro K17 hK17
      refine wp_seq' fun K18 hK18 => ?_
      refine wp_seq' fun K19 hK19 => ?_
      refine wp_reg ?_
      refine ol_r (r_move rfl) rfl ?_
      refine ol_r (r_fa (o' := 0) rfl fl101_0 rfl) rfl ?_
      refine ol_r (r_ld (id := 11) rfl rfl rfl sc3) rfl ?_
      refine ol_r (r_mul rfl rfl (by omega)) rfl ?_
      refine ol_r (r_geq rfl rfl) rfl ?_
      refine ol_nil (to_k0 (fun _ _ h => h) (hK19 _ _ _ _ _ ?_))
      clear hK19
      first | refine wp_condD rfl (fun hc83 => ?_) (fun hc83 => ?_) | refine wp_condN rfl (fun hc83 => ?_) (fun hc83 => ?_) | refine wp_condNB rfl (fun hc83 => ?_) (fun hc83 => ?_) | refine wp_cond' rfl (fun hc83 => ?_) (fun hc83 => ?_)
      ·refine wp_skip' (to_k0 (fun _ _ h => h) (hK18 _ _ _ _ _ ?_))
       clear hK18
       refine wp_block' ?_
       refine wp_rega [(999, []), (8, [(11, _)])] (by kernel_rfl) ⟨.inr subH_nil, ⟨.inr (subH_same rfl subH_nil), trivial⟩⟩ ?_
       obtain ⟨g, hfg, hDg⟩ := hD.next hs hc83
       refine aq_r 0 999 rfl (by kernel_rfl) (by kernel_rfl) (by kernel_rfl) (.head _) (by kernel_rfl) (by kernel_rfl) rfl (r_fa (o' := 0) rfl fl101_0 rfl) ?_
       refine aq_r 1 8 rfl (by kernel_rfl) (by kernel_rfl) (by kernel_rfl) (.tail _ (.head _)) (by kernel_rfl) (by kernel_rfl) rfl (r_ld (id := 11) rfl rfl rfl sc3) ?_
       refine aq_r 2 999 rfl (by kernel_rfl) (by kernel_rfl) (by kernel_rfl) (.head _) (by kernel_rfl) (by kernel_rfl) rfl (r_mul rfl rfl (by omega)) ?_
       refine aq_r 3 999 rfl (by kernel_rfl) (by kernel_rfl) (by kernel_rfl) (.head _) (by kernel_rfl) (by kernel_rfl) rfl (r_fa (o' := 1) rfl fl101_1 rfl) ?_
       refine aq_r 4 8 rfl (by kernel_rfl) (by kernel_rfl) (by kernel_rfl) (.tail _ (.head _)) (by kernel_rfl) (by kernel_rfl) rfl (r_ld (id := 11) rfl rfl rfl sc3) ?_
       refine aq_r 5 999 rfl (by kernel_rfl) (by kernel_rfl) (by kernel_rfl) (.head _) (by kernel_rfl) (by kernel_rfl) rfl (r_move rfl) ?_
       refine aq_r 7 999 rfl (by kernel_rfl) (by kernel_rfl) (by kernel_rfl) (.head _) (by kernel_rfl) (by kernel_rfl) rfl (r_fa (o' := 0) rfl fl101_0 rfl) ?_
       refine aq_one (i := 6) (by kernel_rfl) rfl fun K20 hK20 => ?_
       refine ol_call rfl rfl cb96 rfl (fun w1 hb1 hs1 hB1 => Calls.mono (load_doubled s sl _ (by omega) hs) ?_)
       rintro e w2 ⟨rfl, hb2⟩
       refine After.below rfl hb1 hs1 hB1 hb2 ?_
       clear hb2 hB1 hs1 hb1 w2 w1
       refine ol_nil (to_k0 (fun _ _ h => h) (hK20 _ _ ⟨.inr (by repeat' first | exact subH_nil | refine subH_same rfl ?_ | (refine subH_blk rfl (by repeat' first | exact sub_nil | refine sub_cons rfl ?_) ?_)), ⟨.inr (by repeat' first | exact subH_nil | refine subH_same rfl ?_ | (refine subH_blk rfl (by repeat' first | exact sub_nil | refine sub_cons rfl ?_) ?_)), trivial⟩⟩ ?_))
       clear hK20
       refine aq_one (i := 8) (by kernel_rfl) rfl fun K21 hK21 => ?_
       refine ol_store (id := 11) rfl rfl rfl rfl sz3 rfl rfl (by first | decide | exact Nat.zero_lt_succ _ | simp) ?_
       refine ol_nil (to_k0 (fun _ _ h => h) (hK21 _ _ ⟨.inr (by repeat' first | exact subH_nil | refine subH_same rfl ?_ | (refine subH_blk rfl (by repeat' first | exact sub_nil | refine sub_cons rfl ?_) ?_)), ⟨.inl (by kernel_rfl), trivial⟩⟩ ?_))
       clear hK21
       refine aq_r 9 999 rfl (by kernel_rfl) (by kernel_rfl) (by kernel_rfl) (.head _) (by kernel_rfl) (by kernel_rfl) rfl (r_fa (o' := 1) rfl fl101_1 rfl) ?_
       refine aq_one (i := 10) (by kernel_rfl) rfl fun K22 hK22 => ?_
       refine ol_store (id := 11) rfl rfl rfl rfl sz3 rfl rfl (by first | decide | exact Nat.zero_lt_succ _ | simp) ?_
       refine ol_nil (to_k0 (fun _ _ h => h) (hK22 _ _ ⟨.inr (by repeat' first | exact subH_nil | refine subH_same rfl ?_ | (refine subH_blk rfl (by repeat' first | exact sub_nil | refine sub_cons rfl ?_) ?_)), ⟨.inl (by kernel_rfl), trivial⟩⟩ ?_))
       clear hK22
       refine aq_done (by kernel_rfl) ?_
       refine (to_k0 (fun _ _ h => h) (hK17 ((2 * w_, dblS s sl, g)) _ _ ?_ ?_ sub_nil (sub_cons rfl (sub_cons rfl (sub_cons rfl (sub_cons rfl sub_nil)))) (by exact (subH_blk rfl (sub_cons rfl (sub_cons rfl sub_nil)) subH_nil)) subH_nil))
       ·try dsimp only
        exact hDg
       ·try dsimp only
        omega
      ·refine wp_exit' (to_k0 (fun _ _ h => h) (hK16 _ _ _ _ _ ?_))
       clear hK16
       refine wp_seq' fun K23 hK23 => ?_
       refine wp_regq (by kernel_rfl) (by kernel_rfl) ?_
       refine ql_r (r_fa (o' := 1) rfl fl101_1 rfl) rfl ?_
       refine ql_r (r_ld (id := 11) rfl rfl rfl sc3) rfl ?_
       refine ql_r (r_move rfl) rfl ?_
       refine ql_r (r_fa (o' := 0) rfl fl101_0 rfl) rfl ?_
       refine ql_r (r_ld (id := 11) rfl rfl rfl sc3) rfl ?_
       refine ql_r (r_sub rfl rfl (by omega)) rfl ?_
       refine ql_r (r_fa (o' := 1) rfl fl101_1 rfl) rfl ?_
       refine ql_r (r_ld (id := 11) rfl rfl rfl sc3) rfl ?_
       refine ql_r (r_move rfl) rfl ?_
       refine ql_call rfl rfl cb96 rfl (fun w1 hb1 hs1 hB1 => load_doubled s sl _ (by omega) hs) ?_
       refine ql_r (r_fa (o' := 1) rfl fl101_1 rfl) rfl ?_
       refine ql_r (r_ld (id := 11) rfl rfl rfl sc3) rfl ?_
       refine ql_r (r_sub rfl rfl (by omega)) rfl ?_
       refine ql_r (r_mul rfl rfl (by omega)) rfl ?_
       refine ql_r (r_fa (o' := 0) rfl fl101_0 rfl) rfl ?_
       refine ql_r (r_ld (id := 11) rfl rfl rfl sc3) rfl ?_
       first | refine ql_r (r_quo rfl rfl (by omega)) rfl ?_ | refine ql_r (r_tquo rfl rfl (by omega)) rfl ?_
       refine ql_r (r_add rfl rfl (by omega)) rfl ?_
       refine ql_r (r_assign rfl) rfl ?_
       refine ql_nil (to_k0 (fun _ _ h => h) (hK23 _ _ _ _ _ ?_))
       clear hK23
       refine hQ.ret (rvs1 (rv_t rfl)) (fun _ _ h => h) fun w hb hs hB hkd => ?_
       exact ⟨by rw [hD.stop hc83]; rfl, hb⟩
end Go.Proofs.Ytamlldedmhkobaa
