/-
  TrackMendsKeepWhatIsTrue: Fill changes nothing that is known, and fills nothing twice; each height of Level is one of those around.
-/
import Derived.Test.YtogcclagmobkiaaLevel
import Derived.Test.YtogcclagmobkiaaFill
import Derived.Test.YtogcclagmobkiaaFill3M
import Derived.Test.YtogcclagmobkiaaIndexFn
namespace Go.Proofs.Ytogcclagmobkiaa
open Go Go.RowKit Hx
set_option linter.unusedVariables false
set_option linter.unusedSimpArgs false
set_option maxRecDepth 8000
theorem indexFunc_smp (a : Option Addr) (n c1 : Nat) (xs : List SmpR) (g : FuncId) (cv : List Value) (p : SmpR → Bool) (w : World) (hx : Rd encSmp w.heap.size w a n c1 xs) (hg : Callable Try.prog g)
    (hf : ∀ x w', x ∈ xs → Below w.heap.size w w' → w.heap.size ≤ w'.heap.size → Calls Try.prog g ([encSmp.val x] ++ cv).toArray w' fun e w2 => e = .returned (.bool (p x)) ∧ Below w'.heap.size w' w2) :
    Calls Try.prog 89 #[.slice a n c1, .func (.func g) #[] cv.toArray] w fun e w' => e = .returned (.int .i64 (idxP p xs)) ∧ Below w.heap.size w w' := by
  have hl := hx.len
  have hfit := hx.fit
  subst hl
  refine enterQ (N := 19) (C := fun _ => True) (H := []) (B := w.heap.size) (args := [_, _]) Try.func89 rfl rfl rfl (Nat.le_refl _) (Sat.nil _ _) fun Q hQ => ?_
  refine wp_seq' fun K1 hK1 => ?_
  refine wp_reg ?_
  refine ol_r (r_assign rfl) rfl ?_
  refine ol_nil (to_k0 (fun _ _ h => h) (hK1 _ _ _ _ _ ?_))
  clear hK1
  refine wp_seq' fun K2 hK2 => ?_
  refine wp_seq' fun K3 hK3 => ?_
  refine wp_reg ?_
  refine ol_r (r_move rfl) rfl ?_
  refine ol_r (r_len rfl sl22) rfl ?_
  refine ol_r (r_move rfl) rfl ?_
  refine ol_nil (to_k0 (fun _ _ h => h) (hK3 _ _ _ _ _ ?_))
  clear hK3
  refine wp_block' ?_
  apply wp_loopM (σ := Nat) (fun s => s ≤ xs.length ∧ ∀ y ∈ xs.take s, p y = false) (fun s => [(8, .int .i64 s)]) [(0, _), (1, _), (7, _)] (fun s => []) [] (fun s => xs.length - s) (0)
  ·try dsimp only
   simp
  ·exact (sub_cons rfl sub_nil)
  ·exact (sub_cons rfl (sub_cons rfl (sub_cons rfl sub_nil)))
  ·exact subH_nil
  ·exact subH_nil
  ·rintro k ⟨hk, hP⟩
   intro K4 hK4
   refine wp_seq' fun K5 hK5 => ?_
   refine wp_reg ?_
   refine ol_r (r_lss rfl rfl) rfl ?_
   refine ol_nil (to_k0 (fun _ _ h => h) (hK5 _ _ _ _ _ ?_))
   clear hK5
   refine wp_seq' fun K6 hK6 => ?_
   first | refine wp_condD rfl (fun hc9 => ?_) (fun hc9 => ?_) | refine wp_condN rfl (fun hc9 => ?_) (fun hc9 => ?_) | refine wp_condNB rfl (fun hc9 => ?_) (fun hc9 => ?_) | refine wp_cond' rfl (fun hc9 => ?_) (fun hc9 => ?_)
   ·refine wp_skip' (to_k0 (fun _ _ h => h) (hK6 _ _ _ _ _ ?_))
    clear hK6
    refine wp_seq' fun K7 hK7 => ?_
    refine wp_block' ?_
    refine wp_seq' fun K8 hK8 => ?_
    refine wp_reg ?_
    refine ol_r (r_move rfl) rfl ?_
    refine ol_r (r_assign rfl) rfl ?_
    refine ol_nil (to_k0 (fun _ _ h => h) (hK8 _ _ _ _ _ ?_))
    clear hK8
    refine wp_seq' fun K9 hK9 => ?_
    refine wp_reg ?_
    refine ol_r (r_move rfl) rfl ?_
    refine ol_r (r_move rfl) rfl ?_
    refine ol_r (r_move rfl) rfl ?_
    refine ol_ixr hx rfl rfl sl22 (by omega) rfl fun x14 hx14 => ?_
    try simp only [Int.toNat_natCast] at hx14
    refine ol_r (r_ldw rfl (fun w1 hb1 hs1 hB1 => Rd.loads hx ty28 hx14 hb1)) rfl ?_
    refine ol_call rfl rfl hg rfl (fun w1 hb1 hs1 hB1 => Calls.mono (hf _ _ (List.mem_of_getElem? hx14) hb1 hB1) ?_)
    rintro e w2 ⟨rfl, hb2⟩
    refine After.below rfl hb1 hs1 hB1 hb2 ?_
    clear hb2 hB1 hs1 hb1 w2 w1
    refine ol_nil (to_k0 (fun _ _ h => h) (hK9 _ _ _ _ _ ?_))
    clear hK9
    first | refine wp_condD rfl (fun hc16 => ?_) (fun hc16 => ?_) | refine wp_condN rfl (fun hc16 => ?_) (fun hc16 => ?_) | refine wp_condNB rfl (fun hc16 => ?_) (fun hc16 => ?_) | refine wp_cond' rfl (fun hc16 => ?_) (fun hc16 => ?_)
    ·refine wp_seq' fun K10 hK10 => ?_
     refine wp_reg ?_
     refine ol_r (r_move rfl) rfl ?_
     refine ol_r (r_assign rfl) rfl ?_
     refine ol_nil (to_k0 (fun _ _ h => h) (hK10 _ _ _ _ _ ?_))
     clear hK10
     refine hQ.ret (rvs1 (rv_t rfl)) (fun _ _ h => h) fun w hb hs hB hkd => ?_
     exact ⟨by rw [idxP_at hx14 hc16 hP], hb⟩
    ·refine wp_skip' (to_k0 (fun _ _ h => h) (hK7 _ _ _ _ _ ?_))
     clear hK7
     refine wp_reg ?_
     refine ol_r (r_add rfl rfl (by omega)) rfl ?_
     refine ol_r (r_move rfl) rfl ?_
     refine ol_nil (to_k0 (fun _ _ h => h) (hK4 (k + 1) _ _ ?_ ?_ (sub_cons rfl sub_nil) (sub_cons rfl (sub_cons rfl (sub_cons rfl sub_nil))) (by exact subH_nil) subH_nil))
     ·try dsimp only
      refine ⟨by omega, fun y hy => ?_⟩
      rw [take_succ_get hx14] at hy
      rcases List.mem_append.1 hy with h | h
      · exact hP y h
      · simp at h; subst h; exact hc16
     ·try dsimp only
      omega
   ·refine wp_exit' (to_k0 (fun _ _ h => h) (hK2 _ _ _ _ _ ?_))
    clear hK2
    refine wp_seq' fun K11 hK11 => ?_
    refine wp_reg ?_
    refine ol_r (r_assign rfl) rfl ?_
    refine ol_nil (to_k0 (fun _ _ h => h) (hK11 _ _ _ _ _ ?_))
    clear hK11
    refine hQ.ret (rvs1 (rv_t rfl)) (fun _ _ h => h) fun w hb hs hB hkd => ?_
    rw [List.take_of_length_le (by omega)] at hP
    exact ⟨by rw [idxP_no hP], hb⟩
theorem containsFunc_smp (a : Option Addr) (n c1 : Nat) (xs : List SmpR) (g : FuncId) (cv : List Value) (p : SmpR → Bool) (w : World) (hx : Rd encSmp w.heap.size w a n c1 xs) (hg : Callable Try.prog g)
    (hf : ∀ x w', x ∈ xs → Below w.heap.size w w' → w.heap.size ≤ w'.heap.size → Calls Try.prog g ([encSmp.val x] ++ cv).toArray w' fun e w2 => e = .returned (.bool (p x)) ∧ Below w'.heap.size w' w2) :
    Calls Try.prog 38 #[.slice a n c1, .func (.func g) #[] cv.toArray] w fun e w' => e = .returned (.bool (xs.any p)) ∧ Below w.heap.size w w' := by
  refine enterQ (N := 9) (C := fun _ => True) (H := []) (B := w.heap.size) (args := [_, _]) Try.func38 rfl rfl rfl (Nat.le_refl _) (Sat.nil _ _) fun Q hQ => ?_
  refine wp_seq' fun K1 hK1 => ?_
  refine wp_reg ?_
  refine ol_r (r_assign rfl) rfl ?_
  refine ol_nil (to_k0 (fun _ _ h => h) (hK1 _ _ _ _ _ ?_))
  clear hK1
  refine wp_seq' fun K2 hK2 => ?_
  refine wp_reg ?_
  refine ol_r (r_move rfl) rfl ?_
  refine ol_r (r_move rfl) rfl ?_
  refine ol_call rfl rfl cb89 rfl (fun w1 hb1 hs1 hB1 => Calls.mono (indexFunc_smp _ _ _ xs g cv p _ (hx.at hb1 hB1) hg (fun x w' hm h1 h2 => hf x w' hm ((hb1.trans (h1.mono hB1))) (Nat.le_trans hB1 h2))) ?_)
  rintro e w2 ⟨rfl, hb2⟩
  refine After.below rfl hb1 hs1 hB1 hb2 ?_
  clear hb2 hB1 hs1 hb1 w2 w1
  refine ol_r (r_geq rfl rfl) rfl ?_
  refine ol_r (r_assign rfl) rfl ?_
  refine ol_nil (to_k0 (fun _ _ h => h) (hK2 _ _ _ _ _ ?_))
  clear hK2
  refine hQ.ret (rvs1 (rv_t rfl)) (fun _ _ h => h) fun w hb hs hB hkd => ?_
  exact ⟨by rw [idxP_any], hb⟩
theorem Hx.Blk.one {C b o : Nat} {w : World} {cl : List (Nat × Value)} {v : Value} (h : Blk C w b cl) (hl : look cl o = some v) : Blk C w b [(o, v)] := by
  refine ⟨h.1, fun o' u ho => ?_⟩
  by_cases e : o = o'
  · subst e
    have : look [(o, v)] o = some v := by simp [look]
    rw [this] at ho; cases ho
    exact h.2 o v hl
  · have hbq : o.beq o' = false := by
      cases hb : o.beq o' with
      | true => exact absurd (Nat.eq_of_beq_eq_true hb) e
      | false => rfl
    have : look [(o, v)] o' = none := by simp [look, hbq]
    rw [this] at ho; cases ho
theorem law3_sameZ (q s : SmpR) (b : Nat) (w : World) (h1 : Blk w.heap.size w b [(3, .int .i64 s.z)]) :
    Calls Try.prog 39 ([encSmp.val q] ++ [Value.pointer (some ⟨b, 0, none⟩)]).toArray w fun e w' => e = .returned (.bool (decide (q.z = s.z))) ∧ Below w.heap.size w w' := by
  refine enterQ (N := 9) (C := fun _ => True) (H := []) (B := w.heap.size) (args := [_, _]) Try.func39 rfl rfl rfl (Nat.le_refl _) (Sat.nil _ _) fun Q hQ => ?_
  refine wp_seq' fun K1 hK1 => ?_
  refine wp_reg ?_
  refine ol_box 2 rfl rfl rfl fun b2 => ?_
  refine ol_r (r_assign rfl) rfl ?_
  refine ol_nil (to_k0 (fun _ _ h => h) (hK1 _ _ _ _ _ ?_))
  clear hK1
  refine wp_seq' fun K2 hK2 => ?_
  refine wp_reg ?_
  refine ol_r (r_fa (o' := 3) rfl fl28_3 rfl) rfl ?_
  refine ol_r (r_ld (id := 2) rfl rfl rfl sc3) rfl ?_
  refine ol_r (r_fa (o' := 3) rfl fl28_3 rfl) rfl ?_
  refine ol_r (r_ldw rfl (fun w1 hb1 hs1 hB1 => Blk.loads (o := 3) h1 hb1 sc3 rfl)) rfl ?_
  refine ol_r (r_eql rfl rfl) rfl ?_
  refine ol_r (r_assign rfl) rfl ?_
  refine ol_nil (to_k0 (fun _ _ h => h) (hK2 _ _ _ _ _ ?_))
  clear hK2
  refine hQ.ret (rvs1 (rv_t rfl)) (fun _ _ h => h) fun w hb hs hB hkd => ?_
  exact ⟨rfl, hb⟩
theorem track_FillD (D : ActD) (gap : Int) (sa : Option Addr) (sn sc : Nat) (la : Option Addr) (ln lc : Nat) (ta : Option Addr) (tn tc : Nat) (w : World) (h1 : Rd encSmp w.heap.size w sa sn sc D.ss) (h2 : Rd encLap w.heap.size w la ln lc D.ls) (h3 : Rd encStr w.heap.size w ta tn tc D.ts)
    (nm : D.name.size ≤ 9223372036854775807) (lm : ∀ x ∈ D.ls, x.name.size ≤ 9223372036854775807) (tm : ∀ x ∈ D.ts, x.size ≤ 9223372036854775807) (lo : ∀ x ∈ D.ss, -9223372036854775808 ≤ x.at_ ∧ x.at_ ≤ 9223372036854775807) :
    Calls Try.prog 36 #[.agg #[.string D.name, .int .i64 D.sport, .int .i64 D.start, .slice sa sn sc, .slice la ln lc, .slice ta tn tc], .int .i64 gap] w fun e w' => OutA w.heap.size w' (fillR D gap) e ∧ Below w.heap.size w w' :=
  track_Fill ⟨D.name, D.sport, D.start, sa, sn, sc, la, ln, lc, ta, tn, tc, D.ss, D.ls, D.ts⟩ gap w ⟨h1, h2, h3, nm, lm, tm, lo⟩
theorem fillR_sizes (A : ActV) (gap : Int) {C : Nat} {w : World} (hA : A.Ok C w) : (fillR A.d gap).1.name.size ≤ 9223372036854775807 ∧ (∀ x ∈ (fillR A.d gap).1.ls, x.name.size ≤ 9223372036854775807) ∧ (∀ x ∈ (fillR A.d gap).1.ts, x.size ≤ 9223372036854775807) ∧ (∀ x ∈ (fillR A.d gap).1.ss, -9223372036854775808 ≤ x.at_ ∧ x.at_ ≤ 9223372036854775807) := by
  have hno : noA.name.size ≤ 9223372036854775807 ∧ (∀ x ∈ noA.ls, x.name.size ≤ 9223372036854775807) ∧ (∀ x ∈ noA.ts, x.size ≤ 9223372036854775807) ∧ (∀ x ∈ noA.ss, -9223372036854775808 ≤ x.at_ ∧ x.at_ ≤ 9223372036854775807) := ⟨Nat.zero_le _, (fun x h => nomatch h), (fun x h => nomatch h), (fun x h => nomatch h)⟩
  by_cases h1 : chkA A.d ≠ 0
  · rw [fillR_e h1]; exact hno
  · by_cases h2 : gap < 0 ∨ 1000000 < gap
    · rw [fillR_9 h1 h2]; exact hno
    · rw [fillR_0 h1 h2]
      refine ⟨hA.nm, hA.lm, hA.tm, fun x hx => ?_⟩
      have := (fillAll_ok gap (goodA (Decidable.not_not.1 h1)).smp).bd x hx
      omega
theorem law_mendK (A : ActV) (width gap : Int) (w : World) (hA : A.Ok w.heap.size w) :
    Calls Try.prog 10 #[.agg #[.string A.name, .int .i64 A.sport, .int .i64 A.start, .slice A.sa A.sn A.sc, .slice A.la A.ln A.lc, .slice A.ta A.tn A.tc], .int .i64 width, .int .i64 gap] w fun e w' => e = .returned (.bool true) ∧ Below w.heap.size w w' := by
  obtain ⟨z1, z2, z3, z4⟩ := fillR_sizes A gap hA
  have hsn := hA.s.len
  have hfit := hA.s.fit
  refine enterQ (N := 148) (C := fun _ => True) (H := []) (B := w.heap.size) (args := [_, _, _]) Try.func10 rfl rfl rfl (Nat.le_refl _) (Sat.nil _ _) fun Q hQ => ?_
  refine wp_seq' fun K1 hK1 => ?_
  refine wp_reg ?_
  refine ol_box 3 rfl rfl rfl fun b3 => ?_
  refine ol_r (r_assign rfl) rfl ?_
  refine ol_nil (to_k0 (fun _ _ h => h) (hK1 _ _ _ _ _ ?_))
  clear hK1
  refine wp_seq' fun K2 hK2 => ?_
  refine wp_reg ?_
  refine ol_r (r_lda (id := 3) (n := 6) rfl rfl rfl ag26) rfl ?_
  refine ol_r (r_move rfl) rfl ?_
  refine ol_call rfl rfl cb36 rfl (fun w1 hb1 hs1 hB1 => ?_)
  refine Calls.mono (track_Fill A gap _ (hA.at hb1 hB1)) ?_
  rintro e w2 ⟨⟨sa1, sn1, sc1, la1, ln1, lc1, ta1, tn1, tc1, rfl, hs2⟩, hb2⟩
  have q1 := (Sat.rd hs2 (E := encSmp) (id := 1001) rfl rfl).len
  refine After.more rfl hb1 hs1 hB1 hb2 (hs2.three 1001 1002 1003 1011 1012 1013 (by decide) (by decide) (by decide) rfl rfl rfl (Ent.le_refl _) (Ent.le_refl _) (Ent.le_refl _)) ?_
  clear hs2 hb2 hB1 hs1 hb1 w2 w1
  refine ol_r (r_move rfl) rfl ?_
  refine ol_r (r_extract rfl rfl) rfl ?_
  refine ol_r (r_extract rfl rfl) rfl ?_
  refine ol_alloc 7 z26 rfl fun b7 => ?_
  refine ol_store (id := 7) rfl rfl rfl rfl sz26 rfl rfl (by first | decide | exact Nat.zero_lt_succ _ | simp) ?_
  refine ol_r (r_assign rfl) rfl ?_
  refine ol_nil (to_k0 (fun _ _ h => h) (hK2 _ _ _ _ _ ?_))
  clear hK2
  refine wp_seq' fun K3 hK3 => ?_
  refine wp_reg ?_
  refine ol_r (r_lda (id := 7) (n := 6) rfl rfl rfl ag26) rfl ?_
  refine ol_r (r_move rfl) rfl ?_
  refine ol_call rfl rfl cb36 rfl (fun w1 hb1 hs1 hB1 => ?_)
  refine Calls.mono (track_FillD (fillR A.d gap).1 gap _ _ _ _ _ _ _ _ _ _ (Sat.rd hs1 (id := 1011) rfl rfl) (Sat.rd hs1 (id := 1012) rfl rfl) (Sat.rd hs1 (id := 1013) rfl rfl) z1 z2 z3 z4) ?_
  rintro e w2 ⟨⟨sa2, sn2, sc2, la2, ln2, lc2, ta2, tn2, tc2, rfl, hs2⟩, hb2⟩
  refine After.more rfl hb1 hs1 hB1 hb2 (hs2.three 1001 1002 1003 1021 1022 1023 (by decide) (by decide) (by decide) rfl rfl rfl (Ent.le_refl _) (Ent.le_refl _) (Ent.le_refl _)) ?_
  clear hs2 hb2 hB1 hs1 hb1 w2 w1
  refine ol_r (r_move rfl) rfl ?_
  refine ol_r (r_extract rfl rfl) rfl ?_
  refine ol_r (r_extract rfl rfl) rfl ?_
  refine ol_alloc 9 z26 rfl fun b9 => ?_
  refine ol_store (id := 9) rfl rfl rfl rfl sz26 rfl rfl (by first | decide | exact Nat.zero_lt_succ _ | simp) ?_
  refine ol_r (r_assign rfl) rfl ?_
  refine ol_nil (to_k0 (fun _ _ h => h) (hK3 _ _ _ _ _ ?_))
  clear hK3
  refine wp_seq' fun K4 hK4 => ?_
  refine wp_seq' fun K5 hK5 => ?_
  refine wp_reg ?_
  refine ol_r (r_move rfl) rfl ?_
  refine ol_r (r_eql rfl rfl) rfl ?_
  refine ol_nil (to_k0 (fun _ _ h => h) (hK5 _ _ _ _ _ ?_))
  clear hK5
  first | refine wp_condD rfl (fun hc30 => ?_) (fun hc30 => ?_) | refine wp_condN rfl (fun hc30 => ?_) (fun hc30 => ?_) | refine wp_condNB rfl (fun hc30 => ?_) (fun hc30 => ?_) | refine wp_cond' rfl (fun hc30 => ?_) (fun hc30 => ?_)
  ·refine wp_seq' fun K6 hK6 => ?_
   refine wp_seq' fun K7 hK7 => ?_
   refine wp_reg ?_
   obtain ⟨hg, hw, hR⟩ := fillR_is hc30
   have hE := fillR_twice hc30
   rw [hE]
   refine ol_r (r_move rfl) rfl ?_
   refine ol_r (r_neq rfl rfl) rfl ?_
   refine ol_r (r_move rfl) rfl ?_
   refine ol_split (d := 33) rfl (fun hs33 => ?_) (fun hs33 => ?_)
   ·have phs33 := hs33; try simp only [decide_eq_true_eq, decide_eq_false_iff_not, Bool.not_eq_true', Bool.not_eq_false', Bool.not_true, Bool.not_false] at phs33
    exfalso
    exact phs33 hc30
   ·have phs33 := hs33; try simp only [decide_eq_true_eq, decide_eq_false_iff_not, Bool.not_eq_true', Bool.not_eq_false', Bool.not_true, Bool.not_false] at phs33
    refine ol_g rfl rfl hs33 ?_
    refine ol_r (r_lda (id := 7) (n := 6) rfl rfl rfl ag26) rfl ?_
    refine ol_g rfl rfl hs33 ?_
    refine ol_r (r_lda (id := 9) (n := 6) rfl rfl rfl ag26) rfl ?_
    refine ol_g rfl rfl hs33 ?_
    refine ol_call rfl rfl cb15 rfl (fun w1 hb1 hs1 hB1 => Calls.mono (record_Same (fillR A.d gap).1 _ _ _ _ _ _ _ _ _ _ _ _ _ _ _ _ _ _ _ (Sat.rd hs1 (id := 1011) rfl rfl) (Sat.rd hs1 (id := 1012) rfl rfl) (Sat.rd hs1 (id := 1013) rfl rfl) (Sat.rd hs1 (id := 1021) rfl rfl) (Sat.rd hs1 (id := 1022) rfl rfl) (Sat.rd hs1 (id := 1023) rfl rfl)) ?_)
    rintro e w2 ⟨rfl, hb2⟩
    refine After.below rfl hb1 hs1 hB1 hb2 ?_
    clear hb2 hB1 hs1 hb1 w2 w1
    refine ol_g rfl rfl hs33 ?_
    refine ol_r (r_not rfl) rfl ?_
    refine ol_r (r_pickF rfl hs33 rfl) rfl ?_
    refine ol_r (r_move rfl) rfl ?_
    refine ol_split (d := 39) rfl (fun hs39 => ?_) (fun hs39 => ?_)
    ·have phs39 := hs39; try simp only [decide_eq_true_eq, decide_eq_false_iff_not, Bool.not_eq_true', Bool.not_eq_false', Bool.not_true, Bool.not_false] at phs39
     exfalso
     first | cases phs39; done | exact phs39 trivial | simp at phs39
    ·have phs39 := hs39; try simp only [decide_eq_true_eq, decide_eq_false_iff_not, Bool.not_eq_true', Bool.not_eq_false', Bool.not_true, Bool.not_false] at phs39
     refine ol_g rfl rfl hs39 ?_
     refine ol_r (r_fa (o' := 3) rfl fl26_3 rfl) rfl ?_
     refine ol_g rfl rfl hs39 ?_
     refine ol_r (r_ld (id := 7) rfl rfl rfl sc22) rfl ?_
     refine ol_g rfl rfl hs39 ?_
     refine ol_r (r_len rfl sl22) rfl ?_
     refine ol_g rfl rfl hs39 ?_
     refine ol_r (r_fa (o' := 3) rfl fl26_3 rfl) rfl ?_
     refine ol_g rfl rfl hs39 ?_
     refine ol_r (r_ld (id := 3) rfl rfl rfl sc22) rfl ?_
     refine ol_g rfl rfl hs39 ?_
     refine ol_r (r_len rfl sl22) rfl ?_
     refine ol_g rfl rfl hs39 ?_
     refine ol_r (r_neq rfl rfl) rfl ?_
     refine ol_r (r_pickF rfl hs39 rfl) rfl ?_
     refine ol_nil (to_k0 (fun _ _ h => h) (hK7 _ _ _ _ _ ?_))
     clear hK7
     first | refine wp_condD rfl (fun hc47 => ?_) (fun hc47 => ?_) | refine wp_condN rfl (fun hc47 => ?_) (fun hc47 => ?_) | refine wp_condNB rfl (fun hc47 => ?_) (fun hc47 => ?_) | refine wp_cond' rfl (fun hc47 => ?_) (fun hc47 => ?_)
     ·exfalso
      apply hc47; rw [← q1, hR]; show ((fillAll gap A.ss).length : Int) = _; rw [fillAll_len, hsn]
     ·refine wp_skip' (to_k0 (fun _ _ h => h) (hK6 _ _ _ _ _ ?_))
      clear hK6
      refine wp_seq' fun K8 hK8 => ?_
      refine wp_reg ?_
      refine ol_r (r_fa (o' := 3) rfl fl26_3 rfl) rfl ?_
      refine ol_r (r_ld (id := 3) rfl rfl rfl sc22) rfl ?_
      refine ol_r (r_len rfl sl22) rfl ?_
      refine ol_r (r_move rfl) rfl ?_
      refine ol_nil (to_k0 (fun _ _ h => h) (hK8 _ _ _ _ _ ?_))
      clear hK8
      refine wp_block' ?_
      apply wp_loopM (σ := Nat) (fun s => s ≤ A.sn) (fun s => [(51, .int .i64 s)]) [(1, _), (3, _), (7, _), (8, _), (49, _), (50, _)] (fun s => []) [(3, _), (7, _), (9, _), (1011, _), (1012, _), (1013, _)] (fun s => A.sn - s) (0)
      ·try dsimp only
       exact Nat.zero_le _
      ·exact (sub_cons rfl sub_nil)
      ·exact (sub_cons rfl (sub_cons rfl (sub_cons rfl (sub_cons rfl (sub_cons rfl (sub_cons rfl sub_nil))))))
      ·exact subH_nil
      ·exact (subH_same rfl (subH_same rfl (subH_same rfl (subH_same rfl (subH_same rfl (subH_same rfl subH_nil))))))
      ·rintro i hi
       intro K9 hK9
       refine wp_seq' fun K10 hK10 => ?_
       refine wp_reg ?_
       refine ol_r (r_lss rfl rfl) rfl ?_
       refine ol_nil (to_k0 (fun _ _ h => h) (hK10 _ _ _ _ _ ?_))
       clear hK10
       refine wp_seq' fun K11 hK11 => ?_
       first | refine wp_condD rfl (fun hc52 => ?_) (fun hc52 => ?_) | refine wp_condN rfl (fun hc52 => ?_) (fun hc52 => ?_) | refine wp_condNB rfl (fun hc52 => ?_) (fun hc52 => ?_) | refine wp_cond' rfl (fun hc52 => ?_) (fun hc52 => ?_)
       ·refine wp_skip' (to_k0 (fun _ _ h => h) (hK11 _ _ _ _ _ ?_))
        clear hK11
        refine wp_seq' fun K12 hK12 => ?_
        refine wp_block' ?_
        refine wp_seq' fun K13 hK13 => ?_
        refine wp_reg ?_
        refine ol_r (r_move rfl) rfl ?_
        refine ol_ixr hA.s rfl rfl sl22 (by omega) rfl fun x54 hx54 => ?_
        try simp only [Int.toNat_natCast] at hx54
        refine ol_r (r_ldw rfl (fun w1 hb1 hs1 hB1 => Rd.loads hA.s ty28 hx54 hb1)) rfl ?_
        refine ol_alloc 12 z28 rfl fun b12 => ?_
        refine ol_r (r_assign rfl) rfl ?_
        refine ol_store (id := 12) rfl rfl rfl rfl sz28 rfl rfl (by first | decide | exact Nat.zero_lt_succ _ | simp) ?_
        refine ol_nil (to_k0 (fun _ _ h => h) (hK13 _ _ _ _ _ ?_))
        clear hK13
        refine wp_seq' fun K14 hK14 => ?_
        refine wp_reg ?_
        refine ol_r (r_fa (o' := 3) rfl fl26_3 rfl) rfl ?_
        refine ol_r (r_ld (id := 7) rfl rfl rfl sc22) rfl ?_
        refine ol_r (r_move rfl) rfl ?_
        refine ol_ixo (id := 1011) encSmp _ rfl rfl rfl rfl sl22 (by omega) rfl fun x59 hx59 => ?_
        try simp only [Int.toNat_natCast] at hx59
        try simp only [Int.toNat_natCast] at hx59
        refine ol_r (r_ldw rfl (fun w1 hb1 hs1 hB1 => ld_own (id := 1011) hs1 rfl rfl ty28 hx59)) rfl ?_
        refine ol_alloc 13 z28 rfl fun b13 => ?_
        refine ol_store (id := 13) rfl rfl rfl rfl sz28 rfl rfl (by first | decide | exact Nat.zero_lt_succ _ | simp) ?_
        refine ol_nil (to_k0 (fun _ _ h => h) (hK14 _ _ _ _ _ ?_))
        clear hK14
        refine wp_seq' fun K15 hK15 => ?_
        refine wp_reg ?_
        have hx59 : (fillAll gap A.ss)[i]? = some x59 := by rw [hR] at hx59; exact hx59
        have n0 := (fillAll_num gap hg.smp (g := 0) (by omega) hx59 hx54).1
        have n1 := (fillAll_num gap hg.smp (g := 1) (by omega) hx59 hx54).1
        have n2 := (fillAll_num gap hg.smp (g := 2) (by omega) hx59 hx54).1
        have nz := (fillW_oth gap A.ss 3 i x59 x54 hx59 hx54).2.2.2
        refine ol_r (r_fa (o' := 4) rfl fl28_4 rfl) rfl ?_
        refine ol_r (r_ld (id := 12) rfl rfl rfl sc3) rfl ?_
        refine ol_r (r_geq rfl rfl) rfl ?_
        refine ol_r (r_move rfl) rfl ?_
        refine ol_split (d := 64) rfl (fun hs64 => ?_) (fun hs64 => ?_)
        ·have phs64 := hs64; try simp only [decide_eq_true_eq, decide_eq_false_iff_not, Bool.not_eq_true', Bool.not_eq_false', Bool.not_true, Bool.not_false] at phs64
         refine ol_g rfl rfl hs64 ?_
         refine ol_r (r_fa (o' := 4) rfl fl28_4 rfl) rfl ?_
         refine ol_g rfl rfl hs64 ?_
         refine ol_r (r_ld (id := 13) rfl rfl rfl sc3) rfl ?_
         refine ol_g rfl rfl hs64 ?_
         refine ol_r (r_fa (o' := 4) rfl fl28_4 rfl) rfl ?_
         refine ol_g rfl rfl hs64 ?_
         refine ol_r (r_ld (id := 12) rfl rfl rfl sc3) rfl ?_
         refine ol_g rfl rfl hs64 ?_
         refine ol_r (r_neq rfl rfl) rfl ?_
         refine ol_r (r_pickT rfl hs64 rfl) rfl ?_
         refine ol_r (r_move rfl) rfl ?_
         refine ol_split (d := 71) rfl (fun hs71 => ?_) (fun hs71 => ?_)
         ·have phs71 := hs71; try simp only [decide_eq_true_eq, decide_eq_false_iff_not, Bool.not_eq_true', Bool.not_eq_false', Bool.not_true, Bool.not_false] at phs71
          exfalso
          exact phs71 (n0 phs64)
         ·have phs71 := hs71; try simp only [decide_eq_true_eq, decide_eq_false_iff_not, Bool.not_eq_true', Bool.not_eq_false', Bool.not_true, Bool.not_false] at phs71
          refine ol_g rfl rfl hs71 ?_
          refine ol_r (r_fa (o' := 5) rfl fl28_5 rfl) rfl ?_
          refine ol_g rfl rfl hs71 ?_
          refine ol_r (r_ld (id := 12) rfl rfl rfl sc3) rfl ?_
          refine ol_g rfl rfl hs71 ?_
          refine ol_r (r_geq rfl rfl) rfl ?_
          refine ol_g rfl rfl hs71 ?_
          refine ol_r (r_move rfl) rfl ?_
          refine ol_split (d := 75) rfl (fun hs75 => ?_) (fun hs75 => ?_)
          ·have phs75 := hs75; try simp only [decide_eq_true_eq, decide_eq_false_iff_not, Bool.not_eq_true', Bool.not_eq_false', Bool.not_true, Bool.not_false] at phs75
           refine ol_g rfl rfl hs75 ?_
           refine ol_r (r_fa (o' := 5) rfl fl28_5 rfl) rfl ?_
           refine ol_g rfl rfl hs75 ?_
           refine ol_r (r_ld (id := 13) rfl rfl rfl sc3) rfl ?_
           refine ol_g rfl rfl hs75 ?_
           refine ol_r (r_fa (o' := 5) rfl fl28_5 rfl) rfl ?_
           refine ol_g rfl rfl hs75 ?_
           refine ol_r (r_ld (id := 12) rfl rfl rfl sc3) rfl ?_
           refine ol_g rfl rfl hs75 ?_
           refine ol_r (r_neq rfl rfl) rfl ?_
           refine ol_g rfl rfl hs71 ?_
           refine ol_r (r_pickT rfl hs75 rfl) rfl ?_
           refine ol_r (r_pickF rfl hs71 rfl) rfl ?_
           refine ol_r (r_move rfl) rfl ?_
           refine ol_split (d := 83) rfl (fun hs83 => ?_) (fun hs83 => ?_)
           ·have phs83 := hs83; try simp only [decide_eq_true_eq, decide_eq_false_iff_not, Bool.not_eq_true', Bool.not_eq_false', Bool.not_true, Bool.not_false] at phs83
            exfalso
            exact phs83 (n1 phs75)
           ·have phs83 := hs83; try simp only [decide_eq_true_eq, decide_eq_false_iff_not, Bool.not_eq_true', Bool.not_eq_false', Bool.not_true, Bool.not_false] at phs83
            refine ol_g rfl rfl hs83 ?_
            refine ol_r (r_fa (o' := 6) rfl fl28_6 rfl) rfl ?_
            refine ol_g rfl rfl hs83 ?_
            refine ol_r (r_ld (id := 12) rfl rfl rfl sc3) rfl ?_
            refine ol_g rfl rfl hs83 ?_
            refine ol_r (r_geq rfl rfl) rfl ?_
            refine ol_g rfl rfl hs83 ?_
            refine ol_r (r_move rfl) rfl ?_
            refine ol_split (d := 87) rfl (fun hs87 => ?_) (fun hs87 => ?_)
            ·have phs87 := hs87; try simp only [decide_eq_true_eq, decide_eq_false_iff_not, Bool.not_eq_true', Bool.not_eq_false', Bool.not_true, Bool.not_false] at phs87
             refine ol_g rfl rfl hs87 ?_
             refine ol_r (r_fa (o' := 6) rfl fl28_6 rfl) rfl ?_
             refine ol_g rfl rfl hs87 ?_
             refine ol_r (r_ld (id := 13) rfl rfl rfl sc3) rfl ?_
             refine ol_g rfl rfl hs87 ?_
             refine ol_r (r_fa (o' := 6) rfl fl28_6 rfl) rfl ?_
             refine ol_g rfl rfl hs87 ?_
             refine ol_r (r_ld (id := 12) rfl rfl rfl sc3) rfl ?_
             refine ol_g rfl rfl hs87 ?_
             refine ol_r (r_neq rfl rfl) rfl ?_
             refine ol_g rfl rfl hs83 ?_
             refine ol_r (r_pickT rfl hs87 rfl) rfl ?_
             refine ol_r (r_pickF rfl hs83 rfl) rfl ?_
             refine ol_r (r_move rfl) rfl ?_
             refine ol_split (d := 95) rfl (fun hs95 => ?_) (fun hs95 => ?_)
             ·have phs95 := hs95; try simp only [decide_eq_true_eq, decide_eq_false_iff_not, Bool.not_eq_true', Bool.not_eq_false', Bool.not_true, Bool.not_false] at phs95
              exfalso
              exact phs95 (n2 phs87)
             ·have phs95 := hs95; try simp only [decide_eq_true_eq, decide_eq_false_iff_not, Bool.not_eq_true', Bool.not_eq_false', Bool.not_true, Bool.not_false] at phs95
              refine ol_g rfl rfl hs95 ?_
              refine ol_r (r_fa (o' := 3) rfl fl28_3 rfl) rfl ?_
              refine ol_g rfl rfl hs95 ?_
              refine ol_r (r_ld (id := 12) rfl rfl rfl sc3) rfl ?_
              refine ol_g rfl rfl hs95 ?_
              refine ol_r (r_fa (o' := 3) rfl fl28_3 rfl) rfl ?_
              refine ol_g rfl rfl hs95 ?_
              refine ol_r (r_ld (id := 13) rfl rfl rfl sc3) rfl ?_
              refine ol_g rfl rfl hs95 ?_
              refine ol_r (r_neq rfl rfl) rfl ?_
              refine ol_r (r_pickF rfl hs95 rfl) rfl ?_
              refine ol_nil (to_k0 (fun _ _ h => h) (hK15 _ _ _ _ _ ?_))
              clear hK15
              first | refine wp_condD rfl (fun hc101 => ?_) (fun hc101 => ?_) | refine wp_condN rfl (fun hc101 => ?_) (fun hc101 => ?_) | refine wp_condNB rfl (fun hc101 => ?_) (fun hc101 => ?_) | refine wp_cond' rfl (fun hc101 => ?_) (fun hc101 => ?_)
              ·exfalso
               exact hc101 nz.symm
              ·refine wp_skip' (to_k0 (fun _ _ h => h) (hK12 _ _ _ _ _ ?_))
               clear hK12
               refine wp_reg ?_
               refine ol_r (r_add rfl rfl (by omega)) rfl ?_
               refine ol_r (r_move rfl) rfl ?_
               refine ol_nil (to_k0 (fun _ _ h => h) (hK9 ((i + 1)) _ _ ?_ ?_ (sub_cons rfl sub_nil) (sub_cons rfl (sub_cons rfl (sub_cons rfl (sub_cons rfl (sub_cons rfl (sub_cons rfl sub_nil)))))) (by exact subH_nil) (subH_same rfl (subH_same rfl (subH_same rfl (subH_same rfl (subH_same rfl (subH_same rfl subH_nil))))))))
               ·try dsimp only
                omega
               ·try dsimp only
                omega
            ·have phs87 := hs87; try simp only [decide_eq_true_eq, decide_eq_false_iff_not, Bool.not_eq_true', Bool.not_eq_false', Bool.not_true, Bool.not_false] at phs87
             refine ol_s rfl rfl hs87 rfl ?_
             refine ol_s rfl rfl hs87 rfl ?_
             refine ol_s rfl rfl hs87 rfl ?_
             refine ol_s rfl rfl hs87 rfl ?_
             refine ol_s rfl rfl hs87 rfl ?_
             refine ol_g rfl rfl hs83 ?_
             refine ol_r (r_pickF rfl hs87 rfl) rfl ?_
             refine ol_r (r_pickF rfl hs83 rfl) rfl ?_
             refine ol_r (r_move rfl) rfl ?_
             refine ol_g rfl rfl rfl ?_
             refine ol_r (r_fa (o' := 3) rfl fl28_3 rfl) rfl ?_
             refine ol_g rfl rfl rfl ?_
             refine ol_r (r_ld (id := 12) rfl rfl rfl sc3) rfl ?_
             refine ol_g rfl rfl rfl ?_
             refine ol_r (r_fa (o' := 3) rfl fl28_3 rfl) rfl ?_
             refine ol_g rfl rfl rfl ?_
             refine ol_r (r_ld (id := 13) rfl rfl rfl sc3) rfl ?_
             refine ol_g rfl rfl rfl ?_
             refine ol_r (r_neq rfl rfl) rfl ?_
             refine ol_r (r_pickF rfl rfl rfl) rfl ?_
             refine ol_nil (to_k0 (fun _ _ h => h) (hK15 _ _ _ _ _ ?_))
             clear hK15
             first | refine wp_condD rfl (fun hc101 => ?_) (fun hc101 => ?_) | refine wp_condN rfl (fun hc101 => ?_) (fun hc101 => ?_) | refine wp_condNB rfl (fun hc101 => ?_) (fun hc101 => ?_) | refine wp_cond' rfl (fun hc101 => ?_) (fun hc101 => ?_)
             ·exfalso
              exact hc101 nz.symm
             ·refine wp_skip' (to_k0 (fun _ _ h => h) (hK12 _ _ _ _ _ ?_))
              clear hK12
              refine wp_reg ?_
              refine ol_r (r_add rfl rfl (by omega)) rfl ?_
              refine ol_r (r_move rfl) rfl ?_
              refine ol_nil (to_k0 (fun _ _ h => h) (hK9 ((i + 1)) _ _ ?_ ?_ (sub_cons rfl sub_nil) (sub_cons rfl (sub_cons rfl (sub_cons rfl (sub_cons rfl (sub_cons rfl (sub_cons rfl sub_nil)))))) (by exact subH_nil) (subH_same rfl (subH_same rfl (subH_same rfl (subH_same rfl (subH_same rfl (subH_same rfl subH_nil))))))))
              ·try dsimp only
               omega
              ·try dsimp only
               omega
          ·have phs75 := hs75; try simp only [decide_eq_true_eq, decide_eq_false_iff_not, Bool.not_eq_true', Bool.not_eq_false', Bool.not_true, Bool.not_false] at phs75
           refine ol_s rfl rfl hs75 rfl ?_
           refine ol_s rfl rfl hs75 rfl ?_
           refine ol_s rfl rfl hs75 rfl ?_
           refine ol_s rfl rfl hs75 rfl ?_
           refine ol_s rfl rfl hs75 rfl ?_
           refine ol_g rfl rfl hs71 ?_
           refine ol_r (r_pickF rfl hs75 rfl) rfl ?_
           refine ol_r (r_pickF rfl hs71 rfl) rfl ?_
           refine ol_r (r_move rfl) rfl ?_
           refine ol_g rfl rfl rfl ?_
           refine ol_r (r_fa (o' := 6) rfl fl28_6 rfl) rfl ?_
           refine ol_g rfl rfl rfl ?_
           refine ol_r (r_ld (id := 12) rfl rfl rfl sc3) rfl ?_
           refine ol_g rfl rfl rfl ?_
           refine ol_r (r_geq rfl rfl) rfl ?_
           refine ol_g rfl rfl rfl ?_
           refine ol_r (r_move rfl) rfl ?_
           refine ol_split (d := 87) rfl (fun hs87 => ?_) (fun hs87 => ?_)
           ·have phs87 := hs87; try simp only [decide_eq_true_eq, decide_eq_false_iff_not, Bool.not_eq_true', Bool.not_eq_false', Bool.not_true, Bool.not_false] at phs87
            refine ol_g rfl rfl hs87 ?_
            refine ol_r (r_fa (o' := 6) rfl fl28_6 rfl) rfl ?_
            refine ol_g rfl rfl hs87 ?_
            refine ol_r (r_ld (id := 13) rfl rfl rfl sc3) rfl ?_
            refine ol_g rfl rfl hs87 ?_
            refine ol_r (r_fa (o' := 6) rfl fl28_6 rfl) rfl ?_
            refine ol_g rfl rfl hs87 ?_
            refine ol_r (r_ld (id := 12) rfl rfl rfl sc3) rfl ?_
            refine ol_g rfl rfl hs87 ?_
            refine ol_r (r_neq rfl rfl) rfl ?_
            refine ol_g rfl rfl rfl ?_
            refine ol_r (r_pickT rfl hs87 rfl) rfl ?_
            refine ol_r (r_pickF rfl rfl rfl) rfl ?_
            refine ol_r (r_move rfl) rfl ?_
            refine ol_split (d := 95) rfl (fun hs95 => ?_) (fun hs95 => ?_)
            ·have phs95 := hs95; try simp only [decide_eq_true_eq, decide_eq_false_iff_not, Bool.not_eq_true', Bool.not_eq_false', Bool.not_true, Bool.not_false] at phs95
             exfalso
             exact phs95 (n2 phs87)
            ·have phs95 := hs95; try simp only [decide_eq_true_eq, decide_eq_false_iff_not, Bool.not_eq_true', Bool.not_eq_false', Bool.not_true, Bool.not_false] at phs95
             refine ol_g rfl rfl hs95 ?_
             refine ol_r (r_fa (o' := 3) rfl fl28_3 rfl) rfl ?_
             refine ol_g rfl rfl hs95 ?_
             refine ol_r (r_ld (id := 12) rfl rfl rfl sc3) rfl ?_
             refine ol_g rfl rfl hs95 ?_
             refine ol_r (r_fa (o' := 3) rfl fl28_3 rfl) rfl ?_
             refine ol_g rfl rfl hs95 ?_
             refine ol_r (r_ld (id := 13) rfl rfl rfl sc3) rfl ?_
             refine ol_g rfl rfl hs95 ?_
             refine ol_r (r_neq rfl rfl) rfl ?_
             refine ol_r (r_pickF rfl hs95 rfl) rfl ?_
             refine ol_nil (to_k0 (fun _ _ h => h) (hK15 _ _ _ _ _ ?_))
             clear hK15
             first | refine wp_condD rfl (fun hc101 => ?_) (fun hc101 => ?_) | refine wp_condN rfl (fun hc101 => ?_) (fun hc101 => ?_) | refine wp_condNB rfl (fun hc101 => ?_) (fun hc101 => ?_) | refine wp_cond' rfl (fun hc101 => ?_) (fun hc101 => ?_)
             ·exfalso
              exact hc101 nz.symm
             ·refine wp_skip' (to_k0 (fun _ _ h => h) (hK12 _ _ _ _ _ ?_))
              clear hK12
              refine wp_reg ?_
              refine ol_r (r_add rfl rfl (by omega)) rfl ?_
              refine ol_r (r_move rfl) rfl ?_
              refine ol_nil (to_k0 (fun _ _ h => h) (hK9 ((i + 1)) _ _ ?_ ?_ (sub_cons rfl sub_nil) (sub_cons rfl (sub_cons rfl (sub_cons rfl (sub_cons rfl (sub_cons rfl (sub_cons rfl sub_nil)))))) (by exact subH_nil) (subH_same rfl (subH_same rfl (subH_same rfl (subH_same rfl (subH_same rfl (subH_same rfl subH_nil))))))))
              ·try dsimp only
               omega
              ·try dsimp only
               omega
           ·have phs87 := hs87; try simp only [decide_eq_true_eq, decide_eq_false_iff_not, Bool.not_eq_true', Bool.not_eq_false', Bool.not_true, Bool.not_false] at phs87
            refine ol_s rfl rfl hs87 rfl ?_
            refine ol_s rfl rfl hs87 rfl ?_
            refine ol_s rfl rfl hs87 rfl ?_
            refine ol_s rfl rfl hs87 rfl ?_
            refine ol_s rfl rfl hs87 rfl ?_
            refine ol_g rfl rfl rfl ?_
            refine ol_r (r_pickF rfl hs87 rfl) rfl ?_
            refine ol_r (r_pickF rfl rfl rfl) rfl ?_
            refine ol_r (r_move rfl) rfl ?_
            refine ol_g rfl rfl rfl ?_
            refine ol_r (r_fa (o' := 3) rfl fl28_3 rfl) rfl ?_
            refine ol_g rfl rfl rfl ?_
            refine ol_r (r_ld (id := 12) rfl rfl rfl sc3) rfl ?_
            refine ol_g rfl rfl rfl ?_
            refine ol_r (r_fa (o' := 3) rfl fl28_3 rfl) rfl ?_
            refine ol_g rfl rfl rfl ?_
            refine ol_r (r_ld (id := 13) rfl rfl rfl sc3) rfl ?_
            refine ol_g rfl rfl rfl ?_
            refine ol_r (r_neq rfl rfl) rfl ?_
            refine ol_r (r_pickF rfl rfl rfl) rfl ?_
            refine ol_nil (to_k0 (fun _ _ h => h) (hK15 _ _ _ _ _ ?_))
            clear hK15
            first | refine wp_condD rfl (fun hc101 => ?_) (fun hc101 => ?_) | refine wp_condN rfl (fun hc101 => ?_) (fun hc101 => ?_) | refine wp_condNB rfl (fun hc101 => ?_) (fun hc101 => ?_) | refine wp_cond' rfl (fun hc101 => ?_) (fun hc101 => ?_)
            ·exfalso
             exact hc101 nz.symm
            ·refine wp_skip' (to_k0 (fun _ _ h => h) (hK12 _ _ _ _ _ ?_))
             clear hK12
             refine wp_reg ?_
             refine ol_r (r_add rfl rfl (by omega)) rfl ?_
             refine ol_r (r_move rfl) rfl ?_
             refine ol_nil (to_k0 (fun _ _ h => h) (hK9 ((i + 1)) _ _ ?_ ?_ (sub_cons rfl sub_nil) (sub_cons rfl (sub_cons rfl (sub_cons rfl (sub_cons rfl (sub_cons rfl (sub_cons rfl sub_nil)))))) (by exact subH_nil) (subH_same rfl (subH_same rfl (subH_same rfl (subH_same rfl (subH_same rfl (subH_same rfl subH_nil))))))))
             ·try dsimp only
              omega
             ·try dsimp only
              omega
        ·have phs64 := hs64; try simp only [decide_eq_true_eq, decide_eq_false_iff_not, Bool.not_eq_true', Bool.not_eq_false', Bool.not_true, Bool.not_false] at phs64
         refine ol_s rfl rfl hs64 rfl ?_
         refine ol_s rfl rfl hs64 rfl ?_
         refine ol_s rfl rfl hs64 rfl ?_
         refine ol_s rfl rfl hs64 rfl ?_
         refine ol_s rfl rfl hs64 rfl ?_
         refine ol_r (r_pickF rfl hs64 rfl) rfl ?_
         refine ol_r (r_move rfl) rfl ?_
         refine ol_g rfl rfl rfl ?_
         refine ol_r (r_fa (o' := 5) rfl fl28_5 rfl) rfl ?_
         refine ol_g rfl rfl rfl ?_
         refine ol_r (r_ld (id := 12) rfl rfl rfl sc3) rfl ?_
         refine ol_g rfl rfl rfl ?_
         refine ol_r (r_geq rfl rfl) rfl ?_
         refine ol_g rfl rfl rfl ?_
         refine ol_r (r_move rfl) rfl ?_
         refine ol_split (d := 75) rfl (fun hs75 => ?_) (fun hs75 => ?_)
         ·have phs75 := hs75; try simp only [decide_eq_true_eq, decide_eq_false_iff_not, Bool.not_eq_true', Bool.not_eq_false', Bool.not_true, Bool.not_false] at phs75
          refine ol_g rfl rfl hs75 ?_
          refine ol_r (r_fa (o' := 5) rfl fl28_5 rfl) rfl ?_
          refine ol_g rfl rfl hs75 ?_
          refine ol_r (r_ld (id := 13) rfl rfl rfl sc3) rfl ?_
          refine ol_g rfl rfl hs75 ?_
          refine ol_r (r_fa (o' := 5) rfl fl28_5 rfl) rfl ?_
          refine ol_g rfl rfl hs75 ?_
          refine ol_r (r_ld (id := 12) rfl rfl rfl sc3) rfl ?_
          refine ol_g rfl rfl hs75 ?_
          refine ol_r (r_neq rfl rfl) rfl ?_
          refine ol_g rfl rfl rfl ?_
          refine ol_r (r_pickT rfl hs75 rfl) rfl ?_
          refine ol_r (r_pickF rfl rfl rfl) rfl ?_
          refine ol_r (r_move rfl) rfl ?_
          refine ol_split (d := 83) rfl (fun hs83 => ?_) (fun hs83 => ?_)
          ·have phs83 := hs83; try simp only [decide_eq_true_eq, decide_eq_false_iff_not, Bool.not_eq_true', Bool.not_eq_false', Bool.not_true, Bool.not_false] at phs83
           exfalso
           exact phs83 (n1 phs75)
          ·have phs83 := hs83; try simp only [decide_eq_true_eq, decide_eq_false_iff_not, Bool.not_eq_true', Bool.not_eq_false', Bool.not_true, Bool.not_false] at phs83
           refine ol_g rfl rfl hs83 ?_
           refine ol_r (r_fa (o' := 6) rfl fl28_6 rfl) rfl ?_
           refine ol_g rfl rfl hs83 ?_
           refine ol_r (r_ld (id := 12) rfl rfl rfl sc3) rfl ?_
           refine ol_g rfl rfl hs83 ?_
           refine ol_r (r_geq rfl rfl) rfl ?_
           refine ol_g rfl rfl hs83 ?_
           refine ol_r (r_move rfl) rfl ?_
           refine ol_split (d := 87) rfl (fun hs87 => ?_) (fun hs87 => ?_)
           ·have phs87 := hs87; try simp only [decide_eq_true_eq, decide_eq_false_iff_not, Bool.not_eq_true', Bool.not_eq_false', Bool.not_true, Bool.not_false] at phs87
            refine ol_g rfl rfl hs87 ?_
            refine ol_r (r_fa (o' := 6) rfl fl28_6 rfl) rfl ?_
            refine ol_g rfl rfl hs87 ?_
            refine ol_r (r_ld (id := 13) rfl rfl rfl sc3) rfl ?_
            refine ol_g rfl rfl hs87 ?_
            refine ol_r (r_fa (o' := 6) rfl fl28_6 rfl) rfl ?_
            refine ol_g rfl rfl hs87 ?_
            refine ol_r (r_ld (id := 12) rfl rfl rfl sc3) rfl ?_
            refine ol_g rfl rfl hs87 ?_
            refine ol_r (r_neq rfl rfl) rfl ?_
            refine ol_g rfl rfl hs83 ?_
            refine ol_r (r_pickT rfl hs87 rfl) rfl ?_
            refine ol_r (r_pickF rfl hs83 rfl) rfl ?_
            refine ol_r (r_move rfl) rfl ?_
            refine ol_split (d := 95) rfl (fun hs95 => ?_) (fun hs95 => ?_)
            ·have phs95 := hs95; try simp only [decide_eq_true_eq, decide_eq_false_iff_not, Bool.not_eq_true', Bool.not_eq_false', Bool.not_true, Bool.not_false] at phs95
             exfalso
             exact phs95 (n2 phs87)
            ·have phs95 := hs95; try simp only [decide_eq_true_eq, decide_eq_false_iff_not, Bool.not_eq_true', Bool.not_eq_false', Bool.not_true, Bool.not_false] at phs95
             refine ol_g rfl rfl hs95 ?_
             refine ol_r (r_fa (o' := 3) rfl fl28_3 rfl) rfl ?_
             refine ol_g rfl rfl hs95 ?_
             refine ol_r (r_ld (id := 12) rfl rfl rfl sc3) rfl ?_
             refine ol_g rfl rfl hs95 ?_
             refine ol_r (r_fa (o' := 3) rfl fl28_3 rfl) rfl ?_
             refine ol_g rfl rfl hs95 ?_
             refine ol_r (r_ld (id := 13) rfl rfl rfl sc3) rfl ?_
             refine ol_g rfl rfl hs95 ?_
             refine ol_r (r_neq rfl rfl) rfl ?_
             refine ol_r (r_pickF rfl hs95 rfl) rfl ?_
             refine ol_nil (to_k0 (fun _ _ h => h) (hK15 _ _ _ _ _ ?_))
             clear hK15
             first | refine wp_condD rfl (fun hc101 => ?_) (fun hc101 => ?_) | refine wp_condN rfl (fun hc101 => ?_) (fun hc101 => ?_) | refine wp_condNB rfl (fun hc101 => ?_) (fun hc101 => ?_) | refine wp_cond' rfl (fun hc101 => ?_) (fun hc101 => ?_)
             ·exfalso
              exact hc101 nz.symm
             ·refine wp_skip' (to_k0 (fun _ _ h => h) (hK12 _ _ _ _ _ ?_))
              clear hK12
              refine wp_reg ?_
              refine ol_r (r_add rfl rfl (by omega)) rfl ?_
              refine ol_r (r_move rfl) rfl ?_
              refine ol_nil (to_k0 (fun _ _ h => h) (hK9 ((i + 1)) _ _ ?_ ?_ (sub_cons rfl sub_nil) (sub_cons rfl (sub_cons rfl (sub_cons rfl (sub_cons rfl (sub_cons rfl (sub_cons rfl sub_nil)))))) (by exact subH_nil) (subH_same rfl (subH_same rfl (subH_same rfl (subH_same rfl (subH_same rfl (subH_same rfl subH_nil))))))))
              ·try dsimp only
               omega
              ·try dsimp only
               omega
           ·have phs87 := hs87; try simp only [decide_eq_true_eq, decide_eq_false_iff_not, Bool.not_eq_true', Bool.not_eq_false', Bool.not_true, Bool.not_false] at phs87
            refine ol_s rfl rfl hs87 rfl ?_
            refine ol_s rfl rfl hs87 rfl ?_
            refine ol_s rfl rfl hs87 rfl ?_
            refine ol_s rfl rfl hs87 rfl ?_
            refine ol_s rfl rfl hs87 rfl ?_
            refine ol_g rfl rfl hs83 ?_
            refine ol_r (r_pickF rfl hs87 rfl) rfl ?_
            refine ol_r (r_pickF rfl hs83 rfl) rfl ?_
            refine ol_r (r_move rfl) rfl ?_
            refine ol_g rfl rfl rfl ?_
            refine ol_r (r_fa (o' := 3) rfl fl28_3 rfl) rfl ?_
            refine ol_g rfl rfl rfl ?_
            refine ol_r (r_ld (id := 12) rfl rfl rfl sc3) rfl ?_
            refine ol_g rfl rfl rfl ?_
            refine ol_r (r_fa (o' := 3) rfl fl28_3 rfl) rfl ?_
            refine ol_g rfl rfl rfl ?_
            refine ol_r (r_ld (id := 13) rfl rfl rfl sc3) rfl ?_
            refine ol_g rfl rfl rfl ?_
            refine ol_r (r_neq rfl rfl) rfl ?_
            refine ol_r (r_pickF rfl rfl rfl) rfl ?_
            refine ol_nil (to_k0 (fun _ _ h => h) (hK15 _ _ _ _ _ ?_))
            clear hK15
            first | refine wp_condD rfl (fun hc101 => ?_) (fun hc101 => ?_) | refine wp_condN rfl (fun hc101 => ?_) (fun hc101 => ?_) | refine wp_condNB rfl (fun hc101 => ?_) (fun hc101 => ?_) | refine wp_cond' rfl (fun hc101 => ?_) (fun hc101 => ?_)
            ·exfalso
             exact hc101 nz.symm
            ·refine wp_skip' (to_k0 (fun _ _ h => h) (hK12 _ _ _ _ _ ?_))
             clear hK12
             refine wp_reg ?_
             refine ol_r (r_add rfl rfl (by omega)) rfl ?_
             refine ol_r (r_move rfl) rfl ?_
             refine ol_nil (to_k0 (fun _ _ h => h) (hK9 ((i + 1)) _ _ ?_ ?_ (sub_cons rfl sub_nil) (sub_cons rfl (sub_cons rfl (sub_cons rfl (sub_cons rfl (sub_cons rfl (sub_cons rfl sub_nil)))))) (by exact subH_nil) (subH_same rfl (subH_same rfl (subH_same rfl (subH_same rfl (subH_same rfl (subH_same rfl subH_nil))))))))
             ·try dsimp only
              omega
             ·try dsimp only
              omega
         ·have phs75 := hs75; try simp only [decide_eq_true_eq, decide_eq_false_iff_not, Bool.not_eq_true', Bool.not_eq_false', Bool.not_true, Bool.not_false] at phs75
          refine ol_s rfl rfl hs75 rfl ?_
          refine ol_s rfl rfl hs75 rfl ?_
          refine ol_s rfl rfl hs75 rfl ?_
          refine ol_s rfl rfl hs75 rfl ?_
          refine ol_s rfl rfl hs75 rfl ?_
          refine ol_g rfl rfl rfl ?_
          refine ol_r (r_pickF rfl hs75 rfl) rfl ?_
          refine ol_r (r_pickF rfl rfl rfl) rfl ?_
          refine ol_r (r_move rfl) rfl ?_
          refine ol_g rfl rfl rfl ?_
          refine ol_r (r_fa (o' := 6) rfl fl28_6 rfl) rfl ?_
          refine ol_g rfl rfl rfl ?_
          refine ol_r (r_ld (id := 12) rfl rfl rfl sc3) rfl ?_
          refine ol_g rfl rfl rfl ?_
          refine ol_r (r_geq rfl rfl) rfl ?_
          refine ol_g rfl rfl rfl ?_
          refine ol_r (r_move rfl) rfl ?_
          refine ol_split (d := 87) rfl (fun hs87 => ?_) (fun hs87 => ?_)
          ·have phs87 := hs87; try simp only [decide_eq_true_eq, decide_eq_false_iff_not, Bool.not_eq_true', Bool.not_eq_false', Bool.not_true, Bool.not_false] at phs87
           refine ol_g rfl rfl hs87 ?_
           refine ol_r (r_fa (o' := 6) rfl fl28_6 rfl) rfl ?_
           refine ol_g rfl rfl hs87 ?_
           refine ol_r (r_ld (id := 13) rfl rfl rfl sc3) rfl ?_
           refine ol_g rfl rfl hs87 ?_
           refine ol_r (r_fa (o' := 6) rfl fl28_6 rfl) rfl ?_
           refine ol_g rfl rfl hs87 ?_
           refine ol_r (r_ld (id := 12) rfl rfl rfl sc3) rfl ?_
           refine ol_g rfl rfl hs87 ?_
           refine ol_r (r_neq rfl rfl) rfl ?_
           refine ol_g rfl rfl rfl ?_
           refine ol_r (r_pickT rfl hs87 rfl) rfl ?_
           refine ol_r (r_pickF rfl rfl rfl) rfl ?_
           refine ol_r (r_move rfl) rfl ?_
           refine ol_split (d := 95) rfl (fun hs95 => ?_) (fun hs95 => ?_)
           ·have phs95 := hs95; try simp only [decide_eq_true_eq, decide_eq_false_iff_not, Bool.not_eq_true', Bool.not_eq_false', Bool.not_true, Bool.not_false] at phs95
            exfalso
            exact phs95 (n2 phs87)
           ·have phs95 := hs95; try simp only [decide_eq_true_eq, decide_eq_false_iff_not, Bool.not_eq_true', Bool.not_eq_false', Bool.not_true, Bool.not_false] at phs95
            refine ol_g rfl rfl hs95 ?_
            refine ol_r (r_fa (o' := 3) rfl fl28_3 rfl) rfl ?_
            refine ol_g rfl rfl hs95 ?_
            refine ol_r (r_ld (id := 12) rfl rfl rfl sc3) rfl ?_
            refine ol_g rfl rfl hs95 ?_
            refine ol_r (r_fa (o' := 3) rfl fl28_3 rfl) rfl ?_
            refine ol_g rfl rfl hs95 ?_
            refine ol_r (r_ld (id := 13) rfl rfl rfl sc3) rfl ?_
            refine ol_g rfl rfl hs95 ?_
            refine ol_r (r_neq rfl rfl) rfl ?_
            refine ol_r (r_pickF rfl hs95 rfl) rfl ?_
            refine ol_nil (to_k0 (fun _ _ h => h) (hK15 _ _ _ _ _ ?_))
            clear hK15
            first | refine wp_condD rfl (fun hc101 => ?_) (fun hc101 => ?_) | refine wp_condN rfl (fun hc101 => ?_) (fun hc101 => ?_) | refine wp_condNB rfl (fun hc101 => ?_) (fun hc101 => ?_) | refine wp_cond' rfl (fun hc101 => ?_) (fun hc101 => ?_)
            ·exfalso
             exact hc101 nz.symm
            ·refine wp_skip' (to_k0 (fun _ _ h => h) (hK12 _ _ _ _ _ ?_))
             clear hK12
             refine wp_reg ?_
             refine ol_r (r_add rfl rfl (by omega)) rfl ?_
             refine ol_r (r_move rfl) rfl ?_
             refine ol_nil (to_k0 (fun _ _ h => h) (hK9 ((i + 1)) _ _ ?_ ?_ (sub_cons rfl sub_nil) (sub_cons rfl (sub_cons rfl (sub_cons rfl (sub_cons rfl (sub_cons rfl (sub_cons rfl sub_nil)))))) (by exact subH_nil) (subH_same rfl (subH_same rfl (subH_same rfl (subH_same rfl (subH_same rfl (subH_same rfl subH_nil))))))))
             ·try dsimp only
              omega
             ·try dsimp only
              omega
          ·have phs87 := hs87; try simp only [decide_eq_true_eq, decide_eq_false_iff_not, Bool.not_eq_true', Bool.not_eq_false', Bool.not_true, Bool.not_false] at phs87
           refine ol_s rfl rfl hs87 rfl ?_
           refine ol_s rfl rfl hs87 rfl ?_
           refine ol_s rfl rfl hs87 rfl ?_
           refine ol_s rfl rfl hs87 rfl ?_
           refine ol_s rfl rfl hs87 rfl ?_
           refine ol_g rfl rfl rfl ?_
           refine ol_r (r_pickF rfl hs87 rfl) rfl ?_
           refine ol_r (r_pickF rfl rfl rfl) rfl ?_
           refine ol_r (r_move rfl) rfl ?_
           refine ol_g rfl rfl rfl ?_
           refine ol_r (r_fa (o' := 3) rfl fl28_3 rfl) rfl ?_
           refine ol_g rfl rfl rfl ?_
           refine ol_r (r_ld (id := 12) rfl rfl rfl sc3) rfl ?_
           refine ol_g rfl rfl rfl ?_
           refine ol_r (r_fa (o' := 3) rfl fl28_3 rfl) rfl ?_
           refine ol_g rfl rfl rfl ?_
           refine ol_r (r_ld (id := 13) rfl rfl rfl sc3) rfl ?_
           refine ol_g rfl rfl rfl ?_
           refine ol_r (r_neq rfl rfl) rfl ?_
           refine ol_r (r_pickF rfl rfl rfl) rfl ?_
           refine ol_nil (to_k0 (fun _ _ h => h) (hK15 _ _ _ _ _ ?_))
           clear hK15
           first | refine wp_condD rfl (fun hc101 => ?_) (fun hc101 => ?_) | refine wp_condN rfl (fun hc101 => ?_) (fun hc101 => ?_) | refine wp_condNB rfl (fun hc101 => ?_) (fun hc101 => ?_) | refine wp_cond' rfl (fun hc101 => ?_) (fun hc101 => ?_)
           ·exfalso
            exact hc101 nz.symm
           ·refine wp_skip' (to_k0 (fun _ _ h => h) (hK12 _ _ _ _ _ ?_))
            clear hK12
            refine wp_reg ?_
            refine ol_r (r_add rfl rfl (by omega)) rfl ?_
            refine ol_r (r_move rfl) rfl ?_
            refine ol_nil (to_k0 (fun _ _ h => h) (hK9 ((i + 1)) _ _ ?_ ?_ (sub_cons rfl sub_nil) (sub_cons rfl (sub_cons rfl (sub_cons rfl (sub_cons rfl (sub_cons rfl (sub_cons rfl sub_nil)))))) (by exact subH_nil) (subH_same rfl (subH_same rfl (subH_same rfl (subH_same rfl (subH_same rfl (subH_same rfl subH_nil))))))))
            ·try dsimp only
             omega
            ·try dsimp only
             omega
       ·refine wp_exit' (to_k0 (fun _ _ h => h) (hK4 _ _ _ _ _ ?_))
        clear hK4
        refine wp_seq' fun K16 hK16 => ?_
        refine wp_reg ?_
        refine ol_r (r_lda (id := 3) (n := 6) rfl rfl rfl ag26) rfl ?_
        refine ol_r (r_move rfl) rfl ?_
        refine ol_call rfl rfl cb34 rfl (fun w1 hb1 hs1 hB1 => ?_)
        refine Calls.mono (track_Level A width _ (hA.at hb1 hB1)) ?_
        rintro e w2 ⟨⟨sa3, sn3, sc3, la3, ln3, lc3, ta3, tn3, tc3, rfl, hs2⟩, hb2⟩
        have q3 := (Sat.rd hs2 (E := encSmp) (id := 1001) rfl rfl).len
        refine After.more rfl hb1 hs1 hB1 hb2 (hs2.three 1001 1002 1003 1031 1032 1033 (by decide) (by decide) (by decide) rfl rfl rfl (Ent.le_refl _) (Ent.le_refl _) (Ent.le_refl _)) ?_
        clear hs2 hb2 hB1 hs1 hb1 w2 w1
        refine ol_r (r_move rfl) rfl ?_
        refine ol_r (r_extract rfl rfl) rfl ?_
        refine ol_r (r_extract rfl rfl) rfl ?_
        refine ol_store (id := 7) rfl rfl rfl rfl sz26 rfl rfl (by first | decide | exact Nat.zero_lt_succ _ | simp) ?_
        refine ol_r (r_assign rfl) rfl ?_
        refine ol_nil (to_k0 (fun _ _ h => h) (hK16 _ _ _ _ _ ?_))
        clear hK16
        refine wp_seq' fun K17 hK17 => ?_
        refine wp_seq' fun K18 hK18 => ?_
        refine wp_reg ?_
        refine ol_r (r_move rfl) rfl ?_
        refine ol_r (r_neq rfl rfl) rfl ?_
        refine ol_nil (to_k0 (fun _ _ h => h) (hK18 _ _ _ _ _ ?_))
        clear hK18
        first | refine wp_condD rfl (fun hc110 => ?_) (fun hc110 => ?_) | refine wp_condN rfl (fun hc110 => ?_) (fun hc110 => ?_) | refine wp_condNB rfl (fun hc110 => ?_) (fun hc110 => ?_) | refine wp_cond' rfl (fun hc110 => ?_) (fun hc110 => ?_)
        ·refine wp_seq' fun K19 hK19 => ?_
         refine wp_reg ?_
         refine ol_call rfl rfl cb16 rfl (fun w1 hb1 hs1 hB1 => Calls.mono (law3_told _) ?_)
         rintro e w2 ⟨rfl, hb2⟩
         refine After.below rfl hb1 hs1 hB1 hb2 ?_
         clear hb2 hB1 hs1 hb1 w2 w1
         refine ol_r (r_assign rfl) rfl ?_
         refine ol_nil (to_k0 (fun _ _ h => h) (hK19 _ _ _ _ _ ?_))
         clear hK19
         refine hQ.ret (rvs1 (rv_t rfl)) (fun _ _ h => h) fun w hb hs hB hkd => ?_
         exact ⟨rfl, hb⟩
        ·refine wp_skip' (to_k0 (fun _ _ h => h) (hK17 _ _ _ _ _ ?_))
         clear hK17
         refine wp_seq' fun K20 hK20 => ?_
         refine wp_seq' fun K21 hK21 => ?_
         refine wp_reg ?_
         obtain ⟨hgl, hwl, hRl⟩ := levelR_is (Decidable.not_not.1 hc110)
         have hl20 : A.ss.length ≤ 20000 := hgl.head.2.2.2.1
         refine ol_r (r_fa (o' := 3) rfl fl26_3 rfl) rfl ?_
         refine ol_r (r_ld (id := 7) rfl rfl rfl sc22) rfl ?_
         refine ol_r (r_len rfl sl22) rfl ?_
         refine ol_r (r_fa (o' := 3) rfl fl26_3 rfl) rfl ?_
         refine ol_r (r_ld (id := 3) rfl rfl rfl sc22) rfl ?_
         refine ol_r (r_len rfl sl22) rfl ?_
         refine ol_r (r_neq rfl rfl) rfl ?_
         refine ol_nil (to_k0 (fun _ _ h => h) (hK21 _ _ _ _ _ ?_))
         clear hK21
         first | refine wp_condD rfl (fun hc118 => ?_) (fun hc118 => ?_) | refine wp_condN rfl (fun hc118 => ?_) (fun hc118 => ?_) | refine wp_condNB rfl (fun hc118 => ?_) (fun hc118 => ?_) | refine wp_cond' rfl (fun hc118 => ?_) (fun hc118 => ?_)
         ·exfalso
          apply hc118; rw [← q3, hRl, levelN_len]; rw [show A.d.ss.length = A.sn from hsn]
         ·refine wp_skip' (to_k0 (fun _ _ h => h) (hK20 _ _ _ _ _ ?_))
          clear hK20
          refine wp_seq' fun K22 hK22 => ?_
          refine wp_seq' fun K23 hK23 => ?_
          refine wp_reg ?_
          refine ol_r (r_fa (o' := 3) rfl fl26_3 rfl) rfl ?_
          refine ol_r (r_ld (id := 7) rfl rfl rfl sc22) rfl ?_
          refine ol_r (r_len rfl sl22) rfl ?_
          refine ol_r (r_move rfl) rfl ?_
          refine ol_nil (to_k0 (fun _ _ h => h) (hK23 _ _ _ _ _ ?_))
          clear hK23
          refine wp_block' ?_
          apply wp_loopM (σ := Nat) (fun s => s ≤ sn3) (fun s => [(122, .int .i64 s)]) [(1, _), (3, _), (120, _), (121, _)] (fun s => []) [(3, _), (7, _), (9, _), (1011, _), (1012, _), (1013, _), (1031, _), (1032, _), (1033, _)] (fun s => sn3 - s) (0)
          ·try dsimp only
           exact Nat.zero_le _
          ·exact (sub_cons rfl sub_nil)
          ·exact (sub_cons rfl (sub_cons rfl (sub_cons rfl (sub_cons rfl sub_nil))))
          ·exact subH_nil
          ·exact (subH_same rfl (subH_same rfl (subH_same rfl (subH_same rfl (subH_same rfl (subH_same rfl (subH_same rfl (subH_same rfl (subH_same rfl subH_nil)))))))))
          ·rintro i hi
           intro K24 hK24
           refine wp_seq' fun K25 hK25 => ?_
           refine wp_reg ?_
           refine ol_r (r_lss rfl rfl) rfl ?_
           refine ol_nil (to_k0 (fun _ _ h => h) (hK25 _ _ _ _ _ ?_))
           clear hK25
           refine wp_seq' fun K26 hK26 => ?_
           first | refine wp_condD rfl (fun hc123 => ?_) (fun hc123 => ?_) | refine wp_condN rfl (fun hc123 => ?_) (fun hc123 => ?_) | refine wp_condNB rfl (fun hc123 => ?_) (fun hc123 => ?_) | refine wp_cond' rfl (fun hc123 => ?_) (fun hc123 => ?_)
           ·refine wp_skip' (to_k0 (fun _ _ h => h) (hK26 _ _ _ _ _ ?_))
            clear hK26
            refine wp_seq' fun K27 hK27 => ?_
            refine wp_block' ?_
            refine wp_seq' fun K28 hK28 => ?_
            refine wp_reg ?_
            refine ol_r (r_move rfl) rfl ?_
            refine ol_ixo (id := 1031) encSmp _ rfl rfl rfl rfl sl22 (by omega) rfl fun x125 hx125 => ?_
            try simp only [Int.toNat_natCast] at hx125
            try simp only [Int.toNat_natCast] at hx125
            refine ol_r (r_ldw rfl (fun w1 hb1 hs1 hB1 => ld_own (id := 1031) hs1 rfl rfl ty28 hx125)) rfl ?_
            refine ol_alloc 15 z28 rfl fun b15 => ?_
            refine ol_r (r_assign rfl) rfl ?_
            refine ol_store (id := 15) rfl rfl rfl rfl sz28 rfl rfl (by first | decide | exact Nat.zero_lt_succ _ | simp) ?_
            refine ol_nil (to_k0 (fun _ _ h => h) (hK28 _ _ _ _ _ ?_))
            clear hK28
            refine wp_seq' fun K29 hK29 => ?_
            refine wp_reg ?_
            refine ol_r (r_fa (o' := 3) rfl fl26_3 rfl) rfl ?_
            refine ol_r (r_ld (id := 3) rfl rfl rfl sc22) rfl ?_
            refine ol_r (r_move rfl) rfl ?_
            refine ol_r (r_move rfl) rfl ?_
            refine ol_r (r_sub rfl rfl (by omega)) rfl ?_
            refine ol_r (r_max rfl rfl) rfl ?_
            refine ol_r (r_fa (o' := 3) rfl fl26_3 rfl) rfl ?_
            refine ol_r (r_ld (id := 3) rfl rfl rfl sc22) rfl ?_
            refine ol_r (r_len rfl sl22) rfl ?_
            refine ol_r (r_move rfl) rfl ?_
            refine ol_r (r_move rfl) rfl ?_
            refine ol_r (r_add rfl rfl (by omega)) rfl ?_
            refine ol_r (r_add rfl rfl (by omega)) rfl ?_
            refine ol_r (r_min rfl rfl) rfl ?_
            refine ol_slr hA.s rfl rfl rfl sl22 (by simp only [Option.getD_some, Option.getD_none]; omega) rfl fun a141 c141 hl141 => ?_
            try simp only [Option.getD_some, Option.getD_none] at hl141 ⊢
            refine ol_r (r_func rfl) rfl ?_
            refine ol_call rfl rfl cb38 rfl (fun w1 hb1 hs1 hB1 => Calls.mono (containsFunc_smp _ _ _ _ 39 [_] (fun q => decide (q.z = x125.z)) _ (hl141.at hb1 hB1) cb39 (fun x w' _ h1 h2 => law3_sameZ x x125 _ w' (((hs1.blk (id := 15) rfl).one (o := 3) rfl).at h1 h2))) ?_)
            rintro e w2 ⟨rfl, hb2⟩
            refine After.below rfl hb1 hs1 hB1 hb2 ?_
            clear hb2 hB1 hs1 hb1 w2 w1
            refine ol_r (r_assign rfl) rfl ?_
            refine ol_nil (to_k0 (fun _ _ h => h) (hK29 _ _ _ _ _ ?_))
            clear hK29
            refine wp_seq' fun K30 hK30 => ?_
            refine wp_reg ?_
            refine ol_r (r_move rfl) rfl ?_
            refine ol_r (r_not rfl) rfl ?_
            refine ol_nil (to_k0 (fun _ _ h => h) (hK30 _ _ _ _ _ ?_))
            clear hK30
            first | refine wp_condD rfl (fun hc145 => ?_) (fun hc145 => ?_) | refine wp_condN rfl (fun hc145 => ?_) (fun hc145 => ?_) | refine wp_condNB rfl (fun hc145 => ?_) (fun hc145 => ?_) | refine wp_cond' rfl (fun hc145 => ?_) (fun hc145 => ?_)
            ·exfalso
             have hany := level_any (x := x125) (lo := max 0 ((i : Int) - width)) (hi2 := min (A.sn : Int) ((i : Int) + width + 1)) hwl (show i < A.ss.length by omega) (by rw [hRl] at hx125; exact hx125) rfl (by omega)
             rw [hany] at hc145
             cases hc145
            ·refine wp_skip' (to_k0 (fun _ _ h => h) (hK27 _ _ _ _ _ ?_))
             clear hK27
             refine wp_reg ?_
             refine ol_r (r_add rfl rfl (by omega)) rfl ?_
             refine ol_r (r_move rfl) rfl ?_
             refine ol_nil (to_k0 (fun _ _ h => h) (hK24 ((i + 1)) _ _ ?_ ?_ (sub_cons rfl sub_nil) (sub_cons rfl (sub_cons rfl (sub_cons rfl (sub_cons rfl sub_nil)))) (by exact subH_nil) (subH_same rfl (subH_same rfl (subH_same rfl (subH_same rfl (subH_same rfl (subH_same rfl (subH_same rfl (subH_same rfl (subH_same rfl subH_nil)))))))))))
             ·try dsimp only
              omega
             ·try dsimp only
              omega
           ·refine wp_exit' (to_k0 (fun _ _ h => h) (hK22 _ _ _ _ _ ?_))
            clear hK22
            refine wp_seq' fun K31 hK31 => ?_
            refine wp_reg ?_
            refine ol_call rfl rfl cb16 rfl (fun w1 hb1 hs1 hB1 => Calls.mono (law3_told _) ?_)
            rintro e w2 ⟨rfl, hb2⟩
            refine After.below rfl hb1 hs1 hB1 hb2 ?_
            clear hb2 hB1 hs1 hb1 w2 w1
            refine ol_r (r_assign rfl) rfl ?_
            refine ol_nil (to_k0 (fun _ _ h => h) (hK31 _ _ _ _ _ ?_))
            clear hK31
            refine hQ.ret (rvs1 (rv_t rfl)) (fun _ _ h => h) fun w hb hs hB hkd => ?_
            exact ⟨rfl, hb⟩
  ·refine wp_skip' (to_k0 (fun _ _ h => h) (hK4 _ _ _ _ _ ?_))
   clear hK4
   refine wp_seq' fun K32 hK32 => ?_
   refine wp_reg ?_
   refine ol_r (r_lda (id := 3) (n := 6) rfl rfl rfl ag26) rfl ?_
   refine ol_r (r_move rfl) rfl ?_
   refine ol_call rfl rfl cb34 rfl (fun w1 hb1 hs1 hB1 => ?_)
   refine Calls.mono (track_Level A width _ (hA.at hb1 hB1)) ?_
   rintro e w2 ⟨⟨sa3, sn3, sc3, la3, ln3, lc3, ta3, tn3, tc3, rfl, hs2⟩, hb2⟩
   have q3 := (Sat.rd hs2 (E := encSmp) (id := 1001) rfl rfl).len
   refine After.more rfl hb1 hs1 hB1 hb2 (hs2.three 1001 1002 1003 1031 1032 1033 (by decide) (by decide) (by decide) rfl rfl rfl (Ent.le_refl _) (Ent.le_refl _) (Ent.le_refl _)) ?_
   clear hs2 hb2 hB1 hs1 hb1 w2 w1
   refine ol_r (r_move rfl) rfl ?_
   refine ol_r (r_extract rfl rfl) rfl ?_
   refine ol_r (r_extract rfl rfl) rfl ?_
   refine ol_store (id := 7) rfl rfl rfl rfl sz26 rfl rfl (by first | decide | exact Nat.zero_lt_succ _ | simp) ?_
   refine ol_r (r_assign rfl) rfl ?_
   refine ol_nil (to_k0 (fun _ _ h => h) (hK32 _ _ _ _ _ ?_))
   clear hK32
   refine wp_seq' fun K33 hK33 => ?_
   refine wp_seq' fun K34 hK34 => ?_
   refine wp_reg ?_
   refine ol_r (r_move rfl) rfl ?_
   refine ol_r (r_neq rfl rfl) rfl ?_
   refine ol_nil (to_k0 (fun _ _ h => h) (hK34 _ _ _ _ _ ?_))
   clear hK34
   first | refine wp_condD rfl (fun hc110 => ?_) (fun hc110 => ?_) | refine wp_condN rfl (fun hc110 => ?_) (fun hc110 => ?_) | refine wp_condNB rfl (fun hc110 => ?_) (fun hc110 => ?_) | refine wp_cond' rfl (fun hc110 => ?_) (fun hc110 => ?_)
   ·refine wp_seq' fun K35 hK35 => ?_
    refine wp_reg ?_
    refine ol_call rfl rfl cb16 rfl (fun w1 hb1 hs1 hB1 => Calls.mono (law3_told _) ?_)
    rintro e w2 ⟨rfl, hb2⟩
    refine After.below rfl hb1 hs1 hB1 hb2 ?_
    clear hb2 hB1 hs1 hb1 w2 w1
    refine ol_r (r_assign rfl) rfl ?_
    refine ol_nil (to_k0 (fun _ _ h => h) (hK35 _ _ _ _ _ ?_))
    clear hK35
    refine hQ.ret (rvs1 (rv_t rfl)) (fun _ _ h => h) fun w hb hs hB hkd => ?_
    exact ⟨rfl, hb⟩
   ·refine wp_skip' (to_k0 (fun _ _ h => h) (hK33 _ _ _ _ _ ?_))
    clear hK33
    refine wp_seq' fun K36 hK36 => ?_
    refine wp_seq' fun K37 hK37 => ?_
    refine wp_reg ?_
    obtain ⟨hgl, hwl, hRl⟩ := levelR_is (Decidable.not_not.1 hc110)
    have hl20 : A.ss.length ≤ 20000 := hgl.head.2.2.2.1
    refine ol_r (r_fa (o' := 3) rfl fl26_3 rfl) rfl ?_
    refine ol_r (r_ld (id := 7) rfl rfl rfl sc22) rfl ?_
    refine ol_r (r_len rfl sl22) rfl ?_
    refine ol_r (r_fa (o' := 3) rfl fl26_3 rfl) rfl ?_
    refine ol_r (r_ld (id := 3) rfl rfl rfl sc22) rfl ?_
    refine ol_r (r_len rfl sl22) rfl ?_
    refine ol_r (r_neq rfl rfl) rfl ?_
    refine ol_nil (to_k0 (fun _ _ h => h) (hK37 _ _ _ _ _ ?_))
    clear hK37
    first | refine wp_condD rfl (fun hc118 => ?_) (fun hc118 => ?_) | refine wp_condN rfl (fun hc118 => ?_) (fun hc118 => ?_) | refine wp_condNB rfl (fun hc118 => ?_) (fun hc118 => ?_) | refine wp_cond' rfl (fun hc118 => ?_) (fun hc118 => ?_)
    ·exfalso
     apply hc118; rw [← q3, hRl, levelN_len]; rw [show A.d.ss.length = A.sn from hsn]
    ·refine wp_skip' (to_k0 (fun _ _ h => h) (hK36 _ _ _ _ _ ?_))
     clear hK36
     refine wp_seq' fun K38 hK38 => ?_
     refine wp_seq' fun K39 hK39 => ?_
     refine wp_reg ?_
     refine ol_r (r_fa (o' := 3) rfl fl26_3 rfl) rfl ?_
     refine ol_r (r_ld (id := 7) rfl rfl rfl sc22) rfl ?_
     refine ol_r (r_len rfl sl22) rfl ?_
     refine ol_r (r_move rfl) rfl ?_
     refine ol_nil (to_k0 (fun _ _ h => h) (hK39 _ _ _ _ _ ?_))
     clear hK39
     refine wp_block' ?_
     apply wp_loopM (σ := Nat) (fun s => s ≤ sn3) (fun s => [(122, .int .i64 s)]) [(1, _), (3, _), (120, _), (121, _)] (fun s => []) [(3, _), (7, _), (9, _), (1011, _), (1012, _), (1013, _), (1031, _), (1032, _), (1033, _)] (fun s => sn3 - s) (0)
     ·try dsimp only
      exact Nat.zero_le _
     ·exact (sub_cons rfl sub_nil)
     ·exact (sub_cons rfl (sub_cons rfl (sub_cons rfl (sub_cons rfl sub_nil))))
     ·exact subH_nil
     ·exact (subH_same rfl (subH_same rfl (subH_same rfl (subH_same rfl (subH_same rfl (subH_same rfl (subH_same rfl (subH_same rfl (subH_same rfl subH_nil)))))))))
     ·rintro i hi
      intro K40 hK40
      refine wp_seq' fun K41 hK41 => ?_
      refine wp_reg ?_
      refine ol_r (r_lss rfl rfl) rfl ?_
      refine ol_nil (to_k0 (fun _ _ h => h) (hK41 _ _ _ _ _ ?_))
      clear hK41
      refine wp_seq' fun K42 hK42 => ?_
      first | refine wp_condD rfl (fun hc123 => ?_) (fun hc123 => ?_) | refine wp_condN rfl (fun hc123 => ?_) (fun hc123 => ?_) | refine wp_condNB rfl (fun hc123 => ?_) (fun hc123 => ?_) | refine wp_cond' rfl (fun hc123 => ?_) (fun hc123 => ?_)
      ·refine wp_skip' (to_k0 (fun _ _ h => h) (hK42 _ _ _ _ _ ?_))
       clear hK42
       refine wp_seq' fun K43 hK43 => ?_
       refine wp_block' ?_
       refine wp_seq' fun K44 hK44 => ?_
       refine wp_reg ?_
       refine ol_r (r_move rfl) rfl ?_
       refine ol_ixo (id := 1031) encSmp _ rfl rfl rfl rfl sl22 (by omega) rfl fun x125 hx125 => ?_
       try simp only [Int.toNat_natCast] at hx125
       try simp only [Int.toNat_natCast] at hx125
       refine ol_r (r_ldw rfl (fun w1 hb1 hs1 hB1 => ld_own (id := 1031) hs1 rfl rfl ty28 hx125)) rfl ?_
       refine ol_alloc 15 z28 rfl fun b15 => ?_
       refine ol_r (r_assign rfl) rfl ?_
       refine ol_store (id := 15) rfl rfl rfl rfl sz28 rfl rfl (by first | decide | exact Nat.zero_lt_succ _ | simp) ?_
       refine ol_nil (to_k0 (fun _ _ h => h) (hK44 _ _ _ _ _ ?_))
       clear hK44
       refine wp_seq' fun K45 hK45 => ?_
       refine wp_reg ?_
       refine ol_r (r_fa (o' := 3) rfl fl26_3 rfl) rfl ?_
       refine ol_r (r_ld (id := 3) rfl rfl rfl sc22) rfl ?_
       refine ol_r (r_move rfl) rfl ?_
       refine ol_r (r_move rfl) rfl ?_
       refine ol_r (r_sub rfl rfl (by omega)) rfl ?_
       refine ol_r (r_max rfl rfl) rfl ?_
       refine ol_r (r_fa (o' := 3) rfl fl26_3 rfl) rfl ?_
       refine ol_r (r_ld (id := 3) rfl rfl rfl sc22) rfl ?_
       refine ol_r (r_len rfl sl22) rfl ?_
       refine ol_r (r_move rfl) rfl ?_
       refine ol_r (r_move rfl) rfl ?_
       refine ol_r (r_add rfl rfl (by omega)) rfl ?_
       refine ol_r (r_add rfl rfl (by omega)) rfl ?_
       refine ol_r (r_min rfl rfl) rfl ?_
       refine ol_slr hA.s rfl rfl rfl sl22 (by simp only [Option.getD_some, Option.getD_none]; omega) rfl fun a141 c141 hl141 => ?_
       try simp only [Option.getD_some, Option.getD_none] at hl141 ⊢
       refine ol_r (r_func rfl) rfl ?_
       refine ol_call rfl rfl cb38 rfl (fun w1 hb1 hs1 hB1 => Calls.mono (containsFunc_smp _ _ _ _ 39 [_] (fun q => decide (q.z = x125.z)) _ (hl141.at hb1 hB1) cb39 (fun x w' _ h1 h2 => law3_sameZ x x125 _ w' (((hs1.blk (id := 15) rfl).one (o := 3) rfl).at h1 h2))) ?_)
       rintro e w2 ⟨rfl, hb2⟩
       refine After.below rfl hb1 hs1 hB1 hb2 ?_
       clear hb2 hB1 hs1 hb1 w2 w1
       refine ol_r (r_assign rfl) rfl ?_
       refine ol_nil (to_k0 (fun _ _ h => h) (hK45 _ _ _ _ _ ?_))
       clear hK45
       refine wp_seq' fun K46 hK46 => ?_
       refine wp_reg ?_
       refine ol_r (r_move rfl) rfl ?_
       refine ol_r (r_not rfl) rfl ?_
       refine ol_nil (to_k0 (fun _ _ h => h) (hK46 _ _ _ _ _ ?_))
       clear hK46
       first | refine wp_condD rfl (fun hc145 => ?_) (fun hc145 => ?_) | refine wp_condN rfl (fun hc145 => ?_) (fun hc145 => ?_) | refine wp_condNB rfl (fun hc145 => ?_) (fun hc145 => ?_) | refine wp_cond' rfl (fun hc145 => ?_) (fun hc145 => ?_)
       ·exfalso
        have hany := level_any (x := x125) (lo := max 0 ((i : Int) - width)) (hi2 := min (A.sn : Int) ((i : Int) + width + 1)) hwl (show i < A.ss.length by omega) (by rw [hRl] at hx125; exact hx125) rfl (by omega)
        rw [hany] at hc145
        cases hc145
       ·refine wp_skip' (to_k0 (fun _ _ h => h) (hK43 _ _ _ _ _ ?_))
        clear hK43
        refine wp_reg ?_
        refine ol_r (r_add rfl rfl (by omega)) rfl ?_
        refine ol_r (r_move rfl) rfl ?_
        refine ol_nil (to_k0 (fun _ _ h => h) (hK40 ((i + 1)) _ _ ?_ ?_ (sub_cons rfl sub_nil) (sub_cons rfl (sub_cons rfl (sub_cons rfl (sub_cons rfl sub_nil)))) (by exact subH_nil) (subH_same rfl (subH_same rfl (subH_same rfl (subH_same rfl (subH_same rfl (subH_same rfl (subH_same rfl (subH_same rfl (subH_same rfl subH_nil)))))))))))
        ·try dsimp only
         omega
        ·try dsimp only
         omega
      ·refine wp_exit' (to_k0 (fun _ _ h => h) (hK38 _ _ _ _ _ ?_))
       clear hK38
       refine wp_seq' fun K47 hK47 => ?_
       refine wp_reg ?_
       refine ol_call rfl rfl cb16 rfl (fun w1 hb1 hs1 hB1 => Calls.mono (law3_told _) ?_)
       rintro e w2 ⟨rfl, hb2⟩
       refine After.below rfl hb1 hs1 hB1 hb2 ?_
       clear hb2 hB1 hs1 hb1 w2 w1
       refine ol_r (r_assign rfl) rfl ?_
       refine ol_nil (to_k0 (fun _ _ h => h) (hK47 _ _ _ _ _ ?_))
       clear hK47
       refine hQ.ret (rvs1 (rv_t rfl)) (fun _ _ h => h) fun w hb hs hB hkd => ?_
       exact ⟨rfl, hb⟩
end Go.Proofs.Ytogcclagmobkiaa
