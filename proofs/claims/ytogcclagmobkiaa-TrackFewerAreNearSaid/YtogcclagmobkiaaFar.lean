/-
  TrackFewerAreNear.
-/
import Derived.Test.YtogcclagmobkiaaFarM
import Derived.Test.YtogcclagmobkiaaFewest
import Derived.Test.YtogcclagmobkiaaOnly
import Derived.Test.YtogcclagmobkiaaAt
namespace Go.Proofs.Ytogcclagmobkiaa
open Go Go.RowKit Hx
set_option linter.unusedVariables false
set_option linter.unusedSimpArgs false
set_option maxRecDepth 8000
def encSl : Enc (Option Addr × Nat × Nat) := { size := 1, cells := fun x => [.slice x.1 x.2.1 x.2.2], val := fun x => .slice x.1 x.2.1 x.2.2, len := fun _ => rfl, ones := fun _ u h => by simp at h; subst h; rfl, pos := by decide, vc := fun _ => rfl }
theorem ty37 : Ty Try.prog 37 encSl := .inl ⟨sc37, fun _ => rfl⟩
/-- A, without laps. -/
def ActV.bare (A : ActV) : ActV := ⟨A.name, A.sport, A.start, A.sa, A.sn, A.sc, none, 0, 0, A.ta, A.tn, A.tc, A.ss, [], A.ts⟩
theorem ActV.Ok.bare {A : ActV} {C : Nat} {w : World} (h : A.Ok C w) : A.bare.Ok C w := ⟨h.s, Rd.nil, h.t, h.nm, (fun x hx => by cases hx), h.tm, h.lo⟩
theorem only_bare (A : ActV) (M : Int) (F : List Int) (a : Option Addr) (n c : Nat) (w : World) (hA : A.Ok w.heap.size w) (h0 : chkA A.d = 0) (hc : Chain A.ss M F) (hl : Rd encI w.heap.size w a n c F) :
    Calls Try.prog 24 #[.agg #[.string A.bare.name, .int .i64 A.bare.sport, .int .i64 A.bare.start, .slice A.bare.sa A.bare.sn A.bare.sc, .slice A.bare.la A.bare.ln A.bare.lc, .slice A.bare.ta A.bare.tn A.bare.tc], .slice a n c] w fun e w' => OutA w.heap.size w' (keptD A.d F, 0) e ∧ Below w.heap.size w w' := by
  have h := track_Only A.bare a n c F w hA.bare hl
  have e : onlyR A.bare.d F = (keptD A.d F, 0) := only_kept (a := A.d) h0 hc
  rw [e] at h
  exact h
theorem at_kept (A : ActV) (M : Int) (F : List Int) (s : SmpR) (k : Nat) (sa : Option Addr) (sn sc : Nat) (la : Option Addr) (ln lc : Nat) (ta : Option Addr) (tn tc : Nat) (w : World) (hA : A.Ok w.heap.size w) (h0 : chkA A.d = 0) (hc : Chain A.ss M F) (hs : A.ss[k]? = some s)
    (h1 : Rd encSmp w.heap.size w sa sn sc (keptL A.ss F)) (h2 : Rd encLap w.heap.size w la ln lc []) (h3 : Rd encStr w.heap.size w ta tn tc A.ts) :
    Calls Try.prog 11 #[.agg #[.string A.name, .int .i64 A.sport, .int .i64 A.start, .slice sa sn sc, .slice la ln lc, .slice ta tn tc], .int .i64 s.at_] w fun e w' => e = .returned (.tuple #[encSmp.val (whereV (keptL A.ss F) s.at_), .int .i64 0]) ∧ Below w.heap.size w w' := by
  have hg := keptD_good (goodA h0) hc
  have hsp := kept_span (goodA h0).smp hc hs
  have h := track_At ⟨A.name, A.sport, A.start, sa, sn, sc, la, ln, lc, ta, tn, tc, keptL A.ss F, [], A.ts⟩ s.at_ w ⟨h1, h2, h3, hA.nm, (fun x hx => by cases hx), hA.tm, fun x hx => by have := hg.smp.bd x hx; omega⟩
  have e : atR (keptD A.d F) s.at_ = (whereV (keptL A.ss F) s.at_, 0) := atR_0 hg.chk hsp.2.2 ⟨hsp.1, hsp.2.1⟩
  change Calls _ _ _ _ fun e w' => e = .returned (.tuple #[encSmp.val (atR (keptD A.d F) s.at_).1, .int .i64 (atR (keptD A.d F) s.at_).2]) ∧ _ at h
  rw [e] at h
  exact h
theorem simpleR_inv {a : ActD} {most : Int} (h : (simpleR a most).2 = 0) : fewErr a most 5000 = 0 := by
  by_cases h1 : fewErr a most 5000 = 0
  · exact h1
  · rw [simpleR_e h1] at h; exact h
theorem fewestR_inv {a : ActD} {most : Int} (h : (fewestR a most).2 = 0) : fewErr a most 300 = 0 := by
  by_cases h1 : fewErr a most 300 = 0
  · exact h1
  · rw [fewestR_e h1] at h; exact h
theorem law_far (A : ActV) (most : Int) (w : World) (hA : A.Ok w.heap.size w) :
    Calls Try.prog 6 #[.agg #[.string A.name, .int .i64 A.sport, .int .i64 A.start, .slice A.sa A.sn A.sc, .slice A.la A.ln A.lc, .slice A.ta A.tn A.tc], .int .i64 most] w fun e w' => e = .returned (.bool true) ∧ Below w.heap.size w w' := by
  have hsn := hA.s.len
  have hlr := hA.s
  refine enterQ (N := 108) (C := fun _ => True) (H := []) (B := w.heap.size) (args := [_, _]) Try.func6 rfl rfl rfl (Nat.le_refl _) (Sat.nil _ _) fun Q hQ => ?_
  refine wp_seq' fun K1 hK1 => ?_
  refine wp_reg ?_
  refine ol_box 2 rfl rfl rfl fun b2 => ?_
  refine ol_r (r_assign rfl) rfl ?_
  refine ol_nil (to_k0 (fun _ _ h => h) (hK1 _ _ _ _ _ ?_))
  clear hK1
  refine wp_seq' fun K2 hK2 => ?_
  refine wp_reg ?_
  refine ol_r (r_lda (id := 2) (n := 6) rfl rfl rfl ag26) rfl ?_
  refine ol_r (r_move rfl) rfl ?_
  refine ol_call rfl rfl cb17 rfl (fun w1 hb1 hs1 hB1 => Calls.mono (track_Simple A most _ (hA.at hb1 hB1)) ?_)
  rintro e w2 ⟨a21, n21, c21, rfl, hf21⟩
  refine After.fresh (id := 21) rfl hb1 hs1 hB1 hf21 ?_
  have hl21 := hf21.len; clear hf21 hB1 hs1 hb1 w2 w1
  refine ol_r (r_move rfl) rfl ?_
  refine ol_r (r_extract rfl rfl) rfl ?_
  refine ol_r (r_extract rfl rfl) rfl ?_
  refine ol_r (r_assign rfl) rfl ?_
  refine ol_r (r_assign rfl) rfl ?_
  refine ol_nil (to_k0 (fun _ _ h => h) (hK2 _ _ _ _ _ ?_))
  clear hK2
  refine wp_seq' fun K3 hK3 => ?_
  refine wp_reg ?_
  refine ol_r (r_lda (id := 2) (n := 6) rfl rfl rfl ag26) rfl ?_
  refine ol_r (r_move rfl) rfl ?_
  refine ol_call rfl rfl cb19 rfl (fun w1 hb1 hs1 hB1 => Calls.mono (track_Fewest A most _ (hA.at hb1 hB1)) ?_)
  rintro e w2 ⟨a27, n27, c27, rfl, hf27⟩
  refine After.fresh (id := 27) rfl hb1 hs1 hB1 hf27 ?_
  have hl27 := hf27.len; clear hf27 hB1 hs1 hb1 w2 w1
  refine ol_r (r_move rfl) rfl ?_
  refine ol_r (r_extract rfl rfl) rfl ?_
  refine ol_r (r_extract rfl rfl) rfl ?_
  refine ol_r (r_assign rfl) rfl ?_
  refine ol_r (r_assign rfl) rfl ?_
  refine ol_nil (to_k0 (fun _ _ h => h) (hK3 _ _ _ _ _ ?_))
  clear hK3
  refine wp_seq' fun K4 hK4 => ?_
  refine wp_seq' fun K5 hK5 => ?_
  refine wp_reg ?_
  refine ol_r (r_move rfl) rfl ?_
  refine ol_r (r_neq rfl rfl) rfl ?_
  refine ol_r (r_move rfl) rfl ?_
  refine ol_split (d := 32) rfl (fun hs32 => ?_) (fun hs32 => ?_)
  ·have phs32 := hs32; try simp only [decide_eq_true_eq, decide_eq_false_iff_not, Bool.not_eq_true', Bool.not_eq_false', Bool.not_true, Bool.not_false] at phs32
   refine ol_s rfl rfl hs32 rfl ?_
   refine ol_s rfl rfl hs32 rfl ?_
   refine ol_r (r_pickT rfl hs32 rfl) rfl ?_
   refine ol_r (r_move rfl) rfl ?_
   refine ol_s rfl rfl rfl rfl ?_
   refine ol_s rfl rfl rfl rfl ?_
   refine ol_s rfl rfl rfl rfl ?_
   refine ol_s rfl rfl rfl rfl ?_
   refine ol_r (r_pickT rfl rfl rfl) rfl ?_
   refine ol_nil (to_k0 (fun _ _ h => h) (hK5 _ _ _ _ _ ?_))
   clear hK5
   refine wp_condT rfl ?_
   refine wp_seq' fun K6 hK6 => ?_
   refine wp_reg ?_
   refine ol_call rfl rfl cb16 rfl (fun w1 hb1 hs1 hB1 => Calls.mono (law3_told _) ?_)
   rintro e w2 ⟨rfl, hb2⟩
   refine After.below rfl hb1 hs1 hB1 hb2 ?_
   clear hb2 hB1 hs1 hb1 w2 w1
   refine ol_r (r_assign rfl) rfl ?_
   refine ol_nil (to_k0 (fun _ _ h => h) (hK6 _ _ _ _ _ ?_))
   clear hK6
   refine hQ.ret (rvs1 (rv_t rfl)) (fun _ _ h => h) fun w hb hs hB hkd => ?_
   first
     | exact ⟨rfl, hb⟩
     | (exfalso; exact phs92 rfl)
  ·have phs32 := hs32; try simp only [decide_eq_true_eq, decide_eq_false_iff_not, Bool.not_eq_true', Bool.not_eq_false', Bool.not_true, Bool.not_false] at phs32
   refine ol_g rfl rfl hs32 ?_
   refine ol_r (r_move rfl) rfl ?_
   refine ol_g rfl rfl hs32 ?_
   refine ol_r (r_neq rfl rfl) rfl ?_
   refine ol_r (r_pickF rfl hs32 rfl) rfl ?_
   refine ol_r (r_move rfl) rfl ?_
   refine ol_split (d := 36) rfl (fun hs36 => ?_) (fun hs36 => ?_)
   ·have phs36 := hs36; try simp only [decide_eq_true_eq, decide_eq_false_iff_not, Bool.not_eq_true', Bool.not_eq_false', Bool.not_true, Bool.not_false] at phs36
    refine ol_s rfl rfl hs36 rfl ?_
    refine ol_s rfl rfl hs36 rfl ?_
    refine ol_s rfl rfl hs36 rfl ?_
    refine ol_s rfl rfl hs36 rfl ?_
    refine ol_r (r_pickT rfl hs36 rfl) rfl ?_
    refine ol_nil (to_k0 (fun _ _ h => h) (hK5 _ _ _ _ _ ?_))
    clear hK5
    refine wp_condT rfl ?_
    refine wp_seq' fun K7 hK7 => ?_
    refine wp_reg ?_
    refine ol_call rfl rfl cb16 rfl (fun w1 hb1 hs1 hB1 => Calls.mono (law3_told _) ?_)
    rintro e w2 ⟨rfl, hb2⟩
    refine After.below rfl hb1 hs1 hB1 hb2 ?_
    clear hb2 hB1 hs1 hb1 w2 w1
    refine ol_r (r_assign rfl) rfl ?_
    refine ol_nil (to_k0 (fun _ _ h => h) (hK7 _ _ _ _ _ ?_))
    clear hK7
    refine hQ.ret (rvs1 (rv_t rfl)) (fun _ _ h => h) fun w hb hs hB hkd => ?_
    first
      | exact ⟨rfl, hb⟩
      | (exfalso; exact phs92 rfl)
   ·have phs36 := hs36; try simp only [decide_eq_true_eq, decide_eq_false_iff_not, Bool.not_eq_true', Bool.not_eq_false', Bool.not_true, Bool.not_false] at phs36
    refine ol_g rfl rfl hs36 ?_
    refine ol_r (r_fa (o' := 3) rfl fl26_3 rfl) rfl ?_
    refine ol_g rfl rfl hs36 ?_
    refine ol_r (r_ld (id := 2) rfl rfl rfl sc22) rfl ?_
    refine ol_g rfl rfl hs36 ?_
    refine ol_r (r_len rfl sl22) rfl ?_
    refine ol_g rfl rfl hs36 ?_
    refine ol_r (r_eql rfl rfl) rfl ?_
    refine ol_r (r_pickF rfl hs36 rfl) rfl ?_
    refine ol_nil (to_k0 (fun _ _ h => h) (hK5 _ _ _ _ _ ?_))
    clear hK5
    first | refine wp_condD rfl (fun hc41 => ?_) (fun hc41 => ?_) | refine wp_condN rfl (fun hc41 => ?_) (fun hc41 => ?_) | refine wp_condNB rfl (fun hc41 => ?_) (fun hc41 => ?_) | refine wp_cond' rfl (fun hc41 => ?_) (fun hc41 => ?_)
    ·refine wp_seq' fun K8 hK8 => ?_
     refine wp_reg ?_
     refine ol_call rfl rfl cb16 rfl (fun w1 hb1 hs1 hB1 => Calls.mono (law3_told _) ?_)
     rintro e w2 ⟨rfl, hb2⟩
     refine After.below rfl hb1 hs1 hB1 hb2 ?_
     clear hb2 hB1 hs1 hb1 w2 w1
     refine ol_r (r_assign rfl) rfl ?_
     refine ol_nil (to_k0 (fun _ _ h => h) (hK8 _ _ _ _ _ ?_))
     clear hK8
     refine hQ.ret (rvs1 (rv_t rfl)) (fun _ _ h => h) fun w hb hs hB hkd => ?_
     first
       | exact ⟨rfl, hb⟩
       | (exfalso; exact phs92 rfl)
    ·refine wp_skip' (to_k0 (fun _ _ h => h) (hK4 _ _ _ _ _ ?_))
     clear hK4
     refine wp_seq' fun K9 hK9 => ?_
     refine wp_seq' fun K10 hK10 => ?_
     refine wp_reg ?_
     have he1 := simpleR_inv (a := A.d) (Decidable.not_not.1 phs32)
     have he2 := fewestR_inv (a := A.d) (Decidable.not_not.1 phs36)
     have hS : simpleR A.d most = (simpleL A.ss (most * most), 0) := simpleR_0 he1
     have hF : fewestR A.d most = (fewestL A.ss (most * most), 0) := fewestR_0 he2
     obtain ⟨h0, hmost, _⟩ := fewErr_inv he1
     have hok : SmpOk A.start A.ss := (goodA h0).smp
     have hl20 := hok.len
     have hmm := mul_bd (a := most) (b := most) (A := 100000000) (B := 100000000) (by omega) (by omega) (by omega) (by omega)
     have hch1 := simple_chain (ss := A.ss) (M := most * most) (by omega)
     have hch2 := fewest_chain (ss := A.ss) (M := most * most) (by omega)
     have hfl := few_less (ss := A.ss) (M := most * most)
     rw [hS] at hl21
     rw [hF] at hl27
     rw [hS, hF]
     dsimp only at hl21 hl27 ⊢
     refine ol_r (r_move rfl) rfl ?_
     refine ol_r (r_len rfl sl37) rfl ?_
     refine ol_r (r_move rfl) rfl ?_
     refine ol_r (r_len rfl sl37) rfl ?_
     refine ol_r (r_gtr rfl rfl) rfl ?_
     refine ol_nil (to_k0 (fun _ _ h => h) (hK10 _ _ _ _ _ ?_))
     clear hK10
     first | refine wp_condD rfl (fun hc47 => ?_) (fun hc47 => ?_) | refine wp_condN rfl (fun hc47 => ?_) (fun hc47 => ?_) | refine wp_condNB rfl (fun hc47 => ?_) (fun hc47 => ?_) | refine wp_cond' rfl (fun hc47 => ?_) (fun hc47 => ?_)
     ·exfalso
      omega
     ·refine wp_skip' (to_k0 (fun _ _ h => h) (hK9 _ _ _ _ _ ?_))
      clear hK9
      refine wp_seq' fun K11 hK11 => ?_
      refine wp_seq' fun K12 hK12 => ?_
      refine wp_reg ?_
      refine ol_r (r_move rfl) rfl ?_
      refine ol_r (r_move rfl) rfl ?_
      refine ol_bsN 50 rfl rw43 rfl rfl (fun _ => by kernel_rfl) rfl fun a50 => ?_
      refine ol_r (r_len rfl sl43) rfl ?_
      refine ol_r (r_move rfl) rfl ?_
      refine ol_nil (to_k0 (fun _ _ h => h) (hK12 _ _ _ _ _ ?_))
      clear hK12
      refine wp_block' ?_
      refine wp_unroll 3 ?_
      refine kp_unroll fun K13 hK13 => ?_
      refine wp_seq' fun K14 hK14 => ?_
      refine wp_reg ?_
      refine ol_r (r_lss rfl rfl) rfl ?_
      refine ol_nil (to_k0 (fun _ _ h => h) (hK14 _ _ _ _ _ ?_))
      clear hK14
      refine wp_seq' fun K15 hK15 => ?_
      first | refine wp_condD rfl (fun hc53 => ?_) (fun hc53 => ?_) | refine wp_condN rfl (fun hc53 => ?_) (fun hc53 => ?_) | refine wp_condNB rfl (fun hc53 => ?_) (fun hc53 => ?_) | refine wp_cond' rfl (fun hc53 => ?_) (fun hc53 => ?_)
      ·refine wp_skip' (to_k0 (fun _ _ h => h) (hK15 _ _ _ _ _ ?_))
       clear hK15
       refine wp_seq' fun K16 hK16 => ?_
       refine wp_block' ?_
       refine wp_seq' fun K17 hK17 => ?_
       refine wp_reg ?_
       refine ol_ixo (id := 50) encSl [(a21, n21, c21), (a27, n27, c27)] rfl rfl rfl rfl sl43 (by omega) rfl fun x54 hx54 => ?_
       try simp only [Int.toNat_natCast] at hx54
       try simp only [Int.toNat_natCast] at hx54
       obtain rfl : (a21, n21, c21) = x54 := by simpa using hx54
       refine ol_r (r_ldw rfl (fun w1 hb1 hs1 hB1 => ld_own (id := 50) hs1 rfl rfl ty37 hx54)) rfl ?_
       refine ol_r (r_assign rfl) rfl ?_
       refine ol_nil (to_k0 (fun _ _ h => h) (hK17 _ _ _ _ _ ?_))
       clear hK17
       refine wp_seq' fun K18 hK18 => ?_
       refine wp_reg ?_
       refine ol_r (r_lda (id := 2) (n := 6) rfl rfl rfl ag26) rfl ?_
       refine ol_alloc 11 z26 rfl fun b11 => ?_
       refine ol_store (id := 11) rfl rfl rfl rfl sz26 rfl rfl (by first | decide | exact Nat.zero_lt_succ _ | simp) ?_
       refine ol_nil (to_k0 (fun _ _ h => h) (hK18 _ _ _ _ _ ?_))
       clear hK18
       refine wp_seq' fun K19 hK19 => ?_
       refine wp_reg ?_
       refine ol_r (r_fa (o' := 4) rfl fl26_4 rfl) rfl ?_
       refine ol_store (id := 11) rfl rfl rfl rfl sz23 rfl rfl (by first | decide | exact Nat.zero_lt_succ _ | simp) ?_
       refine ol_nil (to_k0 (fun _ _ h => h) (hK19 _ _ _ _ _ ?_))
       clear hK19
       refine wp_seq' fun K20 hK20 => ?_
       refine wp_reg ?_
       refine ol_r (r_lda (id := 11) (n := 6) rfl rfl rfl ag26) rfl ?_
       refine ol_r (r_move rfl) rfl ?_
       refine ol_call rfl rfl cb24 rfl (fun w1 hb1 hs1 hB1 => ?_)
       refine Calls.mono (only_bare A (most * most) (simpleL A.ss (most * most)) _ _ _ _ (hA.at hb1 hB1) h0 hch1 (Sat.rd hs1 (id := 21) rfl rfl)) ?_
       rintro e w2 ⟨⟨sa, sn, sc, la, ln, lc, ta, tn, tc, rfl, hs2⟩, hb2⟩
       refine After.more rfl hb1 hs1 hB1 hb2 hs2 ?_
       clear hs2 hb2 hB1 hs1 hb1 w2 w1
       refine ol_r (r_move rfl) rfl ?_
       refine ol_r (r_extract rfl rfl) rfl ?_
       refine ol_r (r_extract rfl rfl) rfl ?_
       refine ol_store (id := 11) rfl rfl rfl rfl sz26 rfl rfl (by first | decide | exact Nat.zero_lt_succ _ | simp) ?_
       refine ol_r (r_assign rfl) rfl ?_
       refine ol_nil (to_k0 (fun _ _ h => h) (hK20 _ _ _ _ _ ?_))
       clear hK20
       refine wp_seq' fun K21 hK21 => ?_
       refine wp_seq' fun K22 hK22 => ?_
       refine wp_reg ?_
       refine ol_r (r_move rfl) rfl ?_
       refine ol_r (r_neq rfl rfl) rfl ?_
       refine ol_nil (to_k0 (fun _ _ h => h) (hK22 _ _ _ _ _ ?_))
       clear hK22
       first | refine wp_condD rfl (fun hc65 => ?_) (fun hc65 => ?_) | refine wp_condN rfl (fun hc65 => ?_) (fun hc65 => ?_) | refine wp_condNB rfl (fun hc65 => ?_) (fun hc65 => ?_) | refine wp_cond' rfl (fun hc65 => ?_) (fun hc65 => ?_)
       ·exfalso
        exact hc65 rfl
       ·refine wp_skip' (to_k0 (fun _ _ h => h) (hK21 _ _ _ _ _ ?_))
        clear hK21
        refine wp_seq' fun K23 hK23 => ?_
        refine wp_reg ?_
        refine ol_r (r_fa (o' := 3) rfl fl26_3 rfl) rfl ?_
        refine ol_r (r_ld (id := 2) rfl rfl rfl sc22) rfl ?_
        refine ol_r (r_len rfl sl22) rfl ?_
        refine ol_r (r_move rfl) rfl ?_
        refine ol_nil (to_k0 (fun _ _ h => h) (hK23 _ _ _ _ _ ?_))
        clear hK23
        refine wp_block' ?_
        apply wp_loopM (σ := Nat) (fun s => s ≤ A.ss.length) (fun s => [(69, .int .i64 s)]) [(1, _), (2, _), (6, _), (10, _), (11, _), (50, _), (51, _), (52, _), (53, _), (54, _), (55, _), (56, _), (57, _), (58, _), (59, _), (60, _), (61, _), (62, _), (63, _), (64, _), (65, _), (66, _), (67, _), (68, _)] (fun s => []) [(2, _), (11, _), (21, _), (27, _), (50, _), (1001, _), (1002, _), (1003, _)] (fun s => A.ss.length - s) (0)
        ·try dsimp only
         exact Nat.zero_le _
        ·exact (sub_cons rfl sub_nil)
        ·exact (sub_cons rfl (sub_cons rfl (sub_cons rfl (sub_cons rfl (sub_cons rfl (sub_cons rfl (sub_cons rfl (sub_cons rfl (sub_cons rfl (sub_cons rfl (sub_cons rfl (sub_cons rfl (sub_cons rfl (sub_cons rfl (sub_cons rfl (sub_cons rfl (sub_cons rfl (sub_cons rfl (sub_cons rfl (sub_cons rfl (sub_cons rfl (sub_cons rfl (sub_cons rfl (sub_cons rfl sub_nil))))))))))))))))))))))))
        ·exact subH_nil
        ·exact (subH_same rfl (subH_same rfl (subH_same rfl (subH_same rfl (subH_same rfl (subH_same rfl (subH_same rfl (subH_same rfl subH_nil))))))))
        ·rintro k hk
         intro K24 hK24
         refine wp_seq' fun K25 hK25 => ?_
         refine wp_reg ?_
         refine ol_r (r_lss rfl rfl) rfl ?_
         refine ol_nil (to_k0 (fun _ _ h => h) (hK25 _ _ _ _ _ ?_))
         clear hK25
         refine wp_seq' fun K26 hK26 => ?_
         first | refine wp_condD rfl (fun hc70 => ?_) (fun hc70 => ?_) | refine wp_condN rfl (fun hc70 => ?_) (fun hc70 => ?_) | refine wp_condNB rfl (fun hc70 => ?_) (fun hc70 => ?_) | refine wp_cond' rfl (fun hc70 => ?_) (fun hc70 => ?_)
         ·refine wp_skip' (to_k0 (fun _ _ h => h) (hK26 _ _ _ _ _ ?_))
          clear hK26
          refine wp_seq' fun K27 hK27 => ?_
          refine wp_block' ?_
          refine wp_seq' fun K28 hK28 => ?_
          refine wp_reg ?_
          refine ol_ixr hA.s rfl rfl sl22 (by omega) rfl fun x71 hx71 => ?_
          try simp only [Int.toNat_natCast] at hx71
          refine ol_r (r_ldw rfl (fun w1 hb1 hs1 hB1 => Rd.loads hA.s ty28 hx71 hb1)) rfl ?_
          refine ol_alloc 13 z28 rfl fun b13 => ?_
          refine ol_store (id := 13) rfl rfl rfl rfl sz28 rfl rfl (by first | decide | exact Nat.zero_lt_succ _ | simp) ?_
          refine ol_nil (to_k0 (fun _ _ h => h) (hK28 _ _ _ _ _ ?_))
          clear hK28
          refine wp_seq' fun K29 hK29 => ?_
          refine wp_reg ?_
          have hnr := near_chain hok hmm.1 hch1 hx71
          have hsp := kept_span hok hch1 hx71
          have hwb := whereV_bd (keptD_good (goodA h0) hch1).smp hsp.1 hsp.2.1 (by have := hsp.2.2; show 0 < (keptL A.ss _).length; omega)
          have hsb := hok.bd x71 (List.mem_of_getElem? hx71)
          dsimp only [keptD, ActV.d] at hwb
          have hq1 := sq_bd (a := (whereV (keptL A.ss (simpleL A.ss (most * most))) x71.at_).x - x71.x) (M := 200000000) (by omega)
          have hq2 := sq_bd (a := (whereV (keptL A.ss (simpleL A.ss (most * most))) x71.at_).y - x71.y) (M := 200000000) (by omega)
          unfold sqD at hnr
          refine ol_r (r_lda (id := 11) (n := 6) rfl rfl rfl ag26) rfl ?_
          refine ol_r (r_fa (o' := 0) rfl fl28_0 rfl) rfl ?_
          refine ol_r (r_ld (id := 13) rfl rfl rfl sc3) rfl ?_
          refine ol_call rfl rfl cb11 rfl (fun w1 hb1 hs1 hB1 => Calls.mono (at_kept A (most * most) (simpleL A.ss (most * most)) x71 k _ _ _ _ _ _ _ _ _ _ (hA.at hb1 hB1) h0 hch1 hx71 (Sat.rd hs1 (id := 1001) rfl rfl) (Sat.rd hs1 (id := 1002) rfl rfl) (Sat.rd hs1 (id := 1003) rfl rfl)) ?_)
          rintro e w2 ⟨rfl, hb2⟩
          refine After.below rfl hb1 hs1 hB1 hb2 ?_
          clear hb2 hB1 hs1 hb1 w2 w1
          refine ol_r (r_move rfl) rfl ?_
          refine ol_r (r_extract rfl rfl) rfl ?_
          refine ol_r (r_extract rfl rfl) rfl ?_
          refine ol_alloc 14 z28 rfl fun b14 => ?_
          refine ol_store (id := 14) rfl rfl rfl rfl sz28 rfl rfl (by first | decide | exact Nat.zero_lt_succ _ | simp) ?_
          refine ol_r (r_assign rfl) rfl ?_
          refine ol_nil (to_k0 (fun _ _ h => h) (hK29 _ _ _ _ _ ?_))
          clear hK29
          refine wp_seq' fun K30 hK30 => ?_
          refine wp_regq (by kernel_rfl) (by kernel_rfl) ?_
          refine ql_r (r_fa (o' := 1) rfl fl28_1 rfl) rfl ?_
          refine ql_r (r_ld (id := 14) rfl rfl rfl sc3) rfl ?_
          refine ql_r (r_fa (o' := 1) rfl fl28_1 rfl) rfl ?_
          refine ql_r (r_ld (id := 13) rfl rfl rfl sc3) rfl ?_
          refine ql_r (r_sub rfl rfl (by omega)) rfl ?_
          refine ql_r (r_fa (o' := 2) rfl fl28_2 rfl) rfl ?_
          refine ql_r (r_ld (id := 14) rfl rfl rfl sc3) rfl ?_
          refine ql_r (r_fa (o' := 2) rfl fl28_2 rfl) rfl ?_
          refine ql_r (r_ld (id := 13) rfl rfl rfl sc3) rfl ?_
          refine ql_r (r_sub rfl rfl (by omega)) rfl ?_
          refine ql_r (r_assign rfl) rfl ?_
          refine ql_r (r_assign rfl) rfl ?_
          refine ql_nil (to_k0 (fun _ _ h => h) (hK30 _ _ _ _ _ ?_))
          clear hK30
          refine wp_seq' fun K31 hK31 => ?_
          refine wp_reg ?_
          refine ol_r (r_move rfl) rfl ?_
          refine ol_r (r_neq rfl rfl) rfl ?_
          refine ol_r (r_move rfl) rfl ?_
          refine ol_split (d := 92) rfl (fun hs92 => ?_) (fun hs92 => ?_)
          ·have phs92 := hs92; try simp only [decide_eq_true_eq, decide_eq_false_iff_not, Bool.not_eq_true', Bool.not_eq_false', Bool.not_true, Bool.not_false] at phs92
           refine ol_s rfl rfl hs92 rfl ?_
           refine ol_s rfl rfl hs92 rfl ?_
           refine ol_s rfl rfl hs92 rfl ?_
           refine ol_s rfl rfl hs92 rfl ?_
           refine ol_s rfl rfl hs92 rfl ?_
           refine ol_s rfl rfl hs92 rfl ?_
           refine ol_s rfl rfl hs92 rfl ?_
           refine ol_s rfl rfl hs92 rfl ?_
           refine ol_s rfl rfl hs92 rfl ?_
           refine ol_s rfl rfl hs92 rfl ?_
           refine ol_s rfl rfl hs92 rfl ?_
           refine ol_r (r_pickT rfl hs92 rfl) rfl ?_
           refine ol_nil (to_k0 (fun _ _ h => h) (hK31 _ _ _ _ _ ?_))
           clear hK31
           refine wp_condT rfl ?_
           refine wp_seq' fun K32 hK32 => ?_
           refine wp_reg ?_
           refine ol_r (r_assign rfl) rfl ?_
           refine ol_nil (to_k0 (fun _ _ h => h) (hK32 _ _ _ _ _ ?_))
           clear hK32
           refine hQ.ret (rvs1 (rv_t rfl)) (fun _ _ h => h) fun w hb hs hB hkd => ?_
           first
             | exact ⟨rfl, hb⟩
             | (exfalso; exact phs92 rfl)
          ·have phs92 := hs92; try simp only [decide_eq_true_eq, decide_eq_false_iff_not, Bool.not_eq_true', Bool.not_eq_false', Bool.not_true, Bool.not_false] at phs92
           refine ol_g rfl rfl hs92 ?_
           refine ol_r (r_move rfl) rfl ?_
           refine ol_g rfl rfl hs92 ?_
           refine ol_r (r_move rfl) rfl ?_
           refine ol_g rfl rfl hs92 ?_
           refine ol_r (r_mul rfl rfl (by omega)) rfl ?_
           refine ol_g rfl rfl hs92 ?_
           refine ol_r (r_move rfl) rfl ?_
           refine ol_g rfl rfl hs92 ?_
           refine ol_r (r_move rfl) rfl ?_
           refine ol_g rfl rfl hs92 ?_
           refine ol_r (r_mul rfl rfl (by omega)) rfl ?_
           refine ol_g rfl rfl hs92 ?_
           refine ol_r (r_add rfl rfl (by omega)) rfl ?_
           refine ol_g rfl rfl hs92 ?_
           refine ol_r (r_move rfl) rfl ?_
           refine ol_g rfl rfl hs92 ?_
           refine ol_r (r_move rfl) rfl ?_
           refine ol_g rfl rfl hs92 ?_
           refine ol_r (r_mul rfl rfl (by omega)) rfl ?_
           refine ol_g rfl rfl hs92 ?_
           refine ol_r (r_gtr rfl rfl) rfl ?_
           refine ol_r (r_pickF rfl hs92 rfl) rfl ?_
           refine ol_nil (to_k0 (fun _ _ h => h) (hK31 _ _ _ _ _ ?_))
           clear hK31
           first | refine wp_condD rfl (fun hc104 => ?_) (fun hc104 => ?_) | refine wp_condN rfl (fun hc104 => ?_) (fun hc104 => ?_) | refine wp_condNB rfl (fun hc104 => ?_) (fun hc104 => ?_) | refine wp_cond' rfl (fun hc104 => ?_) (fun hc104 => ?_)
           ·exfalso
            omega
           ·refine wp_skip' (to_k0 (fun _ _ h => h) (hK27 _ _ _ _ _ ?_))
            clear hK27
            refine wp_reg ?_
            refine ol_r (r_add rfl rfl (by omega)) rfl ?_
            refine ol_r (r_move rfl) rfl ?_
            refine ol_nil (to_k0 (fun _ _ h => h) (hK24 (k + 1) _ _ ?_ ?_ (sub_cons rfl sub_nil) (sub_cons rfl (sub_cons rfl (sub_cons rfl (sub_cons rfl (sub_cons rfl (sub_cons rfl (sub_cons rfl (sub_cons rfl (sub_cons rfl (sub_cons rfl (sub_cons rfl (sub_cons rfl (sub_cons rfl (sub_cons rfl (sub_cons rfl (sub_cons rfl (sub_cons rfl (sub_cons rfl (sub_cons rfl (sub_cons rfl (sub_cons rfl (sub_cons rfl (sub_cons rfl (sub_cons rfl sub_nil)))))))))))))))))))))))) (by exact subH_nil) (subH_same rfl (subH_same rfl (subH_same rfl (subH_same rfl (subH_same rfl (subH_same rfl (subH_same rfl (subH_same rfl subH_nil))))))))))
            ·try dsimp only
             omega
            ·try dsimp only
             omega
         ·refine wp_exit' (to_k0 (fun _ _ h => h) (hK16 _ _ _ _ _ ?_))
          clear hK16
          refine wp_reg ?_
          refine ol_r (r_add rfl rfl (by omega)) rfl ?_
          refine ol_r (r_move rfl) rfl ?_
          refine ol_nil (to_k0 (fun _ _ h => h) (hK13 _ _ ?_))
          clear hK13
          refine kp_unroll fun K33 hK33 => ?_
          refine wp_seq' fun K34 hK34 => ?_
          refine wp_reg ?_
          refine ol_r (r_lss rfl rfl) rfl ?_
          refine ol_nil (to_k0 (fun _ _ h => h) (hK34 _ _ _ _ _ ?_))
          clear hK34
          refine wp_seq' fun K35 hK35 => ?_
          first | refine wp_condD rfl (fun hc53 => ?_) (fun hc53 => ?_) | refine wp_condN rfl (fun hc53 => ?_) (fun hc53 => ?_) | refine wp_condNB rfl (fun hc53 => ?_) (fun hc53 => ?_) | refine wp_cond' rfl (fun hc53 => ?_) (fun hc53 => ?_)
          ·refine wp_skip' (to_k0 (fun _ _ h => h) (hK35 _ _ _ _ _ ?_))
           clear hK35
           refine wp_seq' fun K36 hK36 => ?_
           refine wp_block' ?_
           refine wp_seq' fun K37 hK37 => ?_
           refine wp_reg ?_
           refine ol_ixo (id := 50) encSl [(a21, n21, c21), (a27, n27, c27)] rfl rfl rfl rfl sl43 (by omega) rfl fun x54 hx54 => ?_
           try simp only [Int.toNat_natCast] at hx54
           try simp only [Int.toNat_natCast] at hx54
           obtain rfl : (a27, n27, c27) = x54 := by simpa using hx54
           refine ol_r (r_ldw rfl (fun w1 hb1 hs1 hB1 => ld_own (id := 50) hs1 rfl rfl ty37 hx54)) rfl ?_
           refine ol_r (r_assign rfl) rfl ?_
           refine ol_nil (to_k0 (fun _ _ h => h) (hK37 _ _ _ _ _ ?_))
           clear hK37
           refine wp_seq' fun K38 hK38 => ?_
           refine wp_reg ?_
           refine ol_r (r_lda (id := 2) (n := 6) rfl rfl rfl ag26) rfl ?_
           refine ol_alloc 11 z26 rfl fun b11 => ?_
           refine ol_store (id := 11) rfl rfl rfl rfl sz26 rfl rfl (by first | decide | exact Nat.zero_lt_succ _ | simp) ?_
           refine ol_nil (to_k0 (fun _ _ h => h) (hK38 _ _ _ _ _ ?_))
           clear hK38
           refine wp_seq' fun K39 hK39 => ?_
           refine wp_reg ?_
           refine ol_r (r_fa (o' := 4) rfl fl26_4 rfl) rfl ?_
           refine ol_store (id := 11) rfl rfl rfl rfl sz23 rfl rfl (by first | decide | exact Nat.zero_lt_succ _ | simp) ?_
           refine ol_nil (to_k0 (fun _ _ h => h) (hK39 _ _ _ _ _ ?_))
           clear hK39
           refine wp_seq' fun K40 hK40 => ?_
           refine wp_reg ?_
           refine ol_r (r_lda (id := 11) (n := 6) rfl rfl rfl ag26) rfl ?_
           refine ol_r (r_move rfl) rfl ?_
           refine ol_call rfl rfl cb24 rfl (fun w1 hb1 hs1 hB1 => ?_)
           refine Calls.mono (only_bare A (most * most) (fewestL A.ss (most * most)) _ _ _ _ (hA.at hb1 hB1) h0 hch2 (Sat.rd hs1 (id := 27) rfl rfl)) ?_
           rintro e w2 ⟨⟨sa, sn, sc, la, ln, lc, ta, tn, tc, rfl, hs2⟩, hb2⟩
           refine After.more rfl hb1 hs1 hB1 hb2 hs2 ?_
           clear hs2 hb2 hB1 hs1 hb1 w2 w1
           refine ol_r (r_move rfl) rfl ?_
           refine ol_r (r_extract rfl rfl) rfl ?_
           refine ol_r (r_extract rfl rfl) rfl ?_
           refine ol_store (id := 11) rfl rfl rfl rfl sz26 rfl rfl (by first | decide | exact Nat.zero_lt_succ _ | simp) ?_
           refine ol_r (r_assign rfl) rfl ?_
           refine ol_nil (to_k0 (fun _ _ h => h) (hK40 _ _ _ _ _ ?_))
           clear hK40
           refine wp_seq' fun K41 hK41 => ?_
           refine wp_seq' fun K42 hK42 => ?_
           refine wp_reg ?_
           refine ol_r (r_move rfl) rfl ?_
           refine ol_r (r_neq rfl rfl) rfl ?_
           refine ol_nil (to_k0 (fun _ _ h => h) (hK42 _ _ _ _ _ ?_))
           clear hK42
           first | refine wp_condD rfl (fun hc65 => ?_) (fun hc65 => ?_) | refine wp_condN rfl (fun hc65 => ?_) (fun hc65 => ?_) | refine wp_condNB rfl (fun hc65 => ?_) (fun hc65 => ?_) | refine wp_cond' rfl (fun hc65 => ?_) (fun hc65 => ?_)
           ·exfalso
            exact hc65 rfl
           ·refine wp_skip' (to_k0 (fun _ _ h => h) (hK41 _ _ _ _ _ ?_))
            clear hK41
            refine wp_seq' fun K43 hK43 => ?_
            refine wp_reg ?_
            refine ol_r (r_fa (o' := 3) rfl fl26_3 rfl) rfl ?_
            refine ol_r (r_ld (id := 2) rfl rfl rfl sc22) rfl ?_
            refine ol_r (r_len rfl sl22) rfl ?_
            refine ol_r (r_move rfl) rfl ?_
            refine ol_nil (to_k0 (fun _ _ h => h) (hK43 _ _ _ _ _ ?_))
            clear hK43
            refine wp_block' ?_
            apply wp_loopM (σ := Nat) (fun s => s ≤ A.ss.length) (fun s => [(69, .int .i64 s)]) [(1, _), (2, _), (6, _), (10, _), (11, _), (50, _), (51, _), (52, _), (53, _), (54, _), (55, _), (56, _), (57, _), (58, _), (59, _), (60, _), (61, _), (62, _), (63, _), (64, _), (65, _), (66, _), (67, _), (68, _), (106, _)] (fun s => []) [(2, _), (11, _), (21, _), (27, _), (50, _), (1001, _), (1002, _), (1003, _)] (fun s => A.ss.length - s) (0)
            ·try dsimp only
             exact Nat.zero_le _
            ·exact (sub_cons rfl sub_nil)
            ·exact (sub_cons rfl (sub_cons rfl (sub_cons rfl (sub_cons rfl (sub_cons rfl (sub_cons rfl (sub_cons rfl (sub_cons rfl (sub_cons rfl (sub_cons rfl (sub_cons rfl (sub_cons rfl (sub_cons rfl (sub_cons rfl (sub_cons rfl (sub_cons rfl (sub_cons rfl (sub_cons rfl (sub_cons rfl (sub_cons rfl (sub_cons rfl (sub_cons rfl (sub_cons rfl (sub_cons rfl (sub_cons rfl sub_nil)))))))))))))))))))))))))
            ·exact subH_nil
            ·exact (subH_same rfl (subH_same rfl (subH_same rfl (subH_same rfl (subH_same rfl (subH_same rfl (subH_same rfl (subH_same rfl subH_nil))))))))
            ·rintro k hk
             intro K44 hK44
             refine wp_seq' fun K45 hK45 => ?_
             refine wp_reg ?_
             refine ol_r (r_lss rfl rfl) rfl ?_
             refine ol_nil (to_k0 (fun _ _ h => h) (hK45 _ _ _ _ _ ?_))
             clear hK45
             refine wp_seq' fun K46 hK46 => ?_
             first | refine wp_condD rfl (fun hc70 => ?_) (fun hc70 => ?_) | refine wp_condN rfl (fun hc70 => ?_) (fun hc70 => ?_) | refine wp_condNB rfl (fun hc70 => ?_) (fun hc70 => ?_) | refine wp_cond' rfl (fun hc70 => ?_) (fun hc70 => ?_)
             ·refine wp_skip' (to_k0 (fun _ _ h => h) (hK46 _ _ _ _ _ ?_))
              clear hK46
              refine wp_seq' fun K47 hK47 => ?_
              refine wp_block' ?_
              refine wp_seq' fun K48 hK48 => ?_
              refine wp_reg ?_
              refine ol_ixr hA.s rfl rfl sl22 (by omega) rfl fun x71 hx71 => ?_
              try simp only [Int.toNat_natCast] at hx71
              refine ol_r (r_ldw rfl (fun w1 hb1 hs1 hB1 => Rd.loads hA.s ty28 hx71 hb1)) rfl ?_
              refine ol_alloc 13 z28 rfl fun b13 => ?_
              refine ol_store (id := 13) rfl rfl rfl rfl sz28 rfl rfl (by first | decide | exact Nat.zero_lt_succ _ | simp) ?_
              refine ol_nil (to_k0 (fun _ _ h => h) (hK48 _ _ _ _ _ ?_))
              clear hK48
              refine wp_seq' fun K49 hK49 => ?_
              refine wp_reg ?_
              have hnr := near_chain hok hmm.1 hch2 hx71
              have hsp := kept_span hok hch2 hx71
              have hwb := whereV_bd (keptD_good (goodA h0) hch2).smp hsp.1 hsp.2.1 (by have := hsp.2.2; show 0 < (keptL A.ss _).length; omega)
              have hsb := hok.bd x71 (List.mem_of_getElem? hx71)
              dsimp only [keptD, ActV.d] at hwb
              have hq1 := sq_bd (a := (whereV (keptL A.ss (fewestL A.ss (most * most))) x71.at_).x - x71.x) (M := 200000000) (by omega)
              have hq2 := sq_bd (a := (whereV (keptL A.ss (fewestL A.ss (most * most))) x71.at_).y - x71.y) (M := 200000000) (by omega)
              unfold sqD at hnr
              refine ol_r (r_lda (id := 11) (n := 6) rfl rfl rfl ag26) rfl ?_
              refine ol_r (r_fa (o' := 0) rfl fl28_0 rfl) rfl ?_
              refine ol_r (r_ld (id := 13) rfl rfl rfl sc3) rfl ?_
              refine ol_call rfl rfl cb11 rfl (fun w1 hb1 hs1 hB1 => Calls.mono (at_kept A (most * most) (fewestL A.ss (most * most)) x71 k _ _ _ _ _ _ _ _ _ _ (hA.at hb1 hB1) h0 hch2 hx71 (Sat.rd hs1 (id := 1001) rfl rfl) (Sat.rd hs1 (id := 1002) rfl rfl) (Sat.rd hs1 (id := 1003) rfl rfl)) ?_)
              rintro e w2 ⟨rfl, hb2⟩
              refine After.below rfl hb1 hs1 hB1 hb2 ?_
              clear hb2 hB1 hs1 hb1 w2 w1
              refine ol_r (r_move rfl) rfl ?_
              refine ol_r (r_extract rfl rfl) rfl ?_
              refine ol_r (r_extract rfl rfl) rfl ?_
              refine ol_alloc 14 z28 rfl fun b14 => ?_
              refine ol_store (id := 14) rfl rfl rfl rfl sz28 rfl rfl (by first | decide | exact Nat.zero_lt_succ _ | simp) ?_
              refine ol_r (r_assign rfl) rfl ?_
              refine ol_nil (to_k0 (fun _ _ h => h) (hK49 _ _ _ _ _ ?_))
              clear hK49
              refine wp_seq' fun K50 hK50 => ?_
              refine wp_regq (by kernel_rfl) (by kernel_rfl) ?_
              refine ql_r (r_fa (o' := 1) rfl fl28_1 rfl) rfl ?_
              refine ql_r (r_ld (id := 14) rfl rfl rfl sc3) rfl ?_
              refine ql_r (r_fa (o' := 1) rfl fl28_1 rfl) rfl ?_
              refine ql_r (r_ld (id := 13) rfl rfl rfl sc3) rfl ?_
              refine ql_r (r_sub rfl rfl (by omega)) rfl ?_
              refine ql_r (r_fa (o' := 2) rfl fl28_2 rfl) rfl ?_
              refine ql_r (r_ld (id := 14) rfl rfl rfl sc3) rfl ?_
              refine ql_r (r_fa (o' := 2) rfl fl28_2 rfl) rfl ?_
              refine ql_r (r_ld (id := 13) rfl rfl rfl sc3) rfl ?_
              refine ql_r (r_sub rfl rfl (by omega)) rfl ?_
              refine ql_r (r_assign rfl) rfl ?_
              refine ql_r (r_assign rfl) rfl ?_
              refine ql_nil (to_k0 (fun _ _ h => h) (hK50 _ _ _ _ _ ?_))
              clear hK50
              refine wp_seq' fun K51 hK51 => ?_
              refine wp_reg ?_
              refine ol_r (r_move rfl) rfl ?_
              refine ol_r (r_neq rfl rfl) rfl ?_
              refine ol_r (r_move rfl) rfl ?_
              refine ol_split (d := 92) rfl (fun hs92 => ?_) (fun hs92 => ?_)
              ·have phs92 := hs92; try simp only [decide_eq_true_eq, decide_eq_false_iff_not, Bool.not_eq_true', Bool.not_eq_false', Bool.not_true, Bool.not_false] at phs92
               refine ol_s rfl rfl hs92 rfl ?_
               refine ol_s rfl rfl hs92 rfl ?_
               refine ol_s rfl rfl hs92 rfl ?_
               refine ol_s rfl rfl hs92 rfl ?_
               refine ol_s rfl rfl hs92 rfl ?_
               refine ol_s rfl rfl hs92 rfl ?_
               refine ol_s rfl rfl hs92 rfl ?_
               refine ol_s rfl rfl hs92 rfl ?_
               refine ol_s rfl rfl hs92 rfl ?_
               refine ol_s rfl rfl hs92 rfl ?_
               refine ol_s rfl rfl hs92 rfl ?_
               refine ol_r (r_pickT rfl hs92 rfl) rfl ?_
               refine ol_nil (to_k0 (fun _ _ h => h) (hK51 _ _ _ _ _ ?_))
               clear hK51
               refine wp_condT rfl ?_
               refine wp_seq' fun K52 hK52 => ?_
               refine wp_reg ?_
               refine ol_r (r_assign rfl) rfl ?_
               refine ol_nil (to_k0 (fun _ _ h => h) (hK52 _ _ _ _ _ ?_))
               clear hK52
               refine hQ.ret (rvs1 (rv_t rfl)) (fun _ _ h => h) fun w hb hs hB hkd => ?_
               first
                 | exact ⟨rfl, hb⟩
                 | (exfalso; exact phs92 rfl)
              ·have phs92 := hs92; try simp only [decide_eq_true_eq, decide_eq_false_iff_not, Bool.not_eq_true', Bool.not_eq_false', Bool.not_true, Bool.not_false] at phs92
               refine ol_g rfl rfl hs92 ?_
               refine ol_r (r_move rfl) rfl ?_
               refine ol_g rfl rfl hs92 ?_
               refine ol_r (r_move rfl) rfl ?_
               refine ol_g rfl rfl hs92 ?_
               refine ol_r (r_mul rfl rfl (by omega)) rfl ?_
               refine ol_g rfl rfl hs92 ?_
               refine ol_r (r_move rfl) rfl ?_
               refine ol_g rfl rfl hs92 ?_
               refine ol_r (r_move rfl) rfl ?_
               refine ol_g rfl rfl hs92 ?_
               refine ol_r (r_mul rfl rfl (by omega)) rfl ?_
               refine ol_g rfl rfl hs92 ?_
               refine ol_r (r_add rfl rfl (by omega)) rfl ?_
               refine ol_g rfl rfl hs92 ?_
               refine ol_r (r_move rfl) rfl ?_
               refine ol_g rfl rfl hs92 ?_
               refine ol_r (r_move rfl) rfl ?_
               refine ol_g rfl rfl hs92 ?_
               refine ol_r (r_mul rfl rfl (by omega)) rfl ?_
               refine ol_g rfl rfl hs92 ?_
               refine ol_r (r_gtr rfl rfl) rfl ?_
               refine ol_r (r_pickF rfl hs92 rfl) rfl ?_
               refine ol_nil (to_k0 (fun _ _ h => h) (hK51 _ _ _ _ _ ?_))
               clear hK51
               first | refine wp_condD rfl (fun hc104 => ?_) (fun hc104 => ?_) | refine wp_condN rfl (fun hc104 => ?_) (fun hc104 => ?_) | refine wp_condNB rfl (fun hc104 => ?_) (fun hc104 => ?_) | refine wp_cond' rfl (fun hc104 => ?_) (fun hc104 => ?_)
               ·exfalso
                omega
               ·refine wp_skip' (to_k0 (fun _ _ h => h) (hK47 _ _ _ _ _ ?_))
                clear hK47
                refine wp_reg ?_
                refine ol_r (r_add rfl rfl (by omega)) rfl ?_
                refine ol_r (r_move rfl) rfl ?_
                refine ol_nil (to_k0 (fun _ _ h => h) (hK44 (k + 1) _ _ ?_ ?_ (sub_cons rfl sub_nil) (sub_cons rfl (sub_cons rfl (sub_cons rfl (sub_cons rfl (sub_cons rfl (sub_cons rfl (sub_cons rfl (sub_cons rfl (sub_cons rfl (sub_cons rfl (sub_cons rfl (sub_cons rfl (sub_cons rfl (sub_cons rfl (sub_cons rfl (sub_cons rfl (sub_cons rfl (sub_cons rfl (sub_cons rfl (sub_cons rfl (sub_cons rfl (sub_cons rfl (sub_cons rfl (sub_cons rfl (sub_cons rfl sub_nil))))))))))))))))))))))))) (by exact subH_nil) (subH_same rfl (subH_same rfl (subH_same rfl (subH_same rfl (subH_same rfl (subH_same rfl (subH_same rfl (subH_same rfl subH_nil))))))))))
                ·try dsimp only
                 omega
                ·try dsimp only
                 omega
             ·refine wp_exit' (to_k0 (fun _ _ h => h) (hK36 _ _ _ _ _ ?_))
              clear hK36
              refine wp_reg ?_
              refine ol_r (r_add rfl rfl (by omega)) rfl ?_
              refine ol_r (r_move rfl) rfl ?_
              refine ol_nil (to_k0 (fun _ _ h => h) (hK33 _ _ ?_))
              clear hK33
              refine kp_unroll fun K53 hK53 => ?_
              refine wp_seq' fun K54 hK54 => ?_
              refine wp_reg ?_
              refine ol_r (r_lss rfl rfl) rfl ?_
              refine ol_nil (to_k0 (fun _ _ h => h) (hK54 _ _ _ _ _ ?_))
              clear hK54
              refine wp_seq' fun K55 hK55 => ?_
              first | refine wp_condD rfl (fun hc53 => ?_) (fun hc53 => ?_) | refine wp_condN rfl (fun hc53 => ?_) (fun hc53 => ?_) | refine wp_condNB rfl (fun hc53 => ?_) (fun hc53 => ?_) | refine wp_cond' rfl (fun hc53 => ?_) (fun hc53 => ?_)
              ·exfalso
               omega
              ·refine wp_exit' (to_k0 (fun _ _ h => h) (hK11 _ _ _ _ _ ?_))
               clear hK11
               refine wp_seq' fun K56 hK56 => ?_
               refine wp_reg ?_
               refine ol_call rfl rfl cb16 rfl (fun w1 hb1 hs1 hB1 => Calls.mono (law3_told _) ?_)
               rintro e w2 ⟨rfl, hb2⟩
               refine After.below rfl hb1 hs1 hB1 hb2 ?_
               clear hb2 hB1 hs1 hb1 w2 w1
               refine ol_r (r_assign rfl) rfl ?_
               refine ol_nil (to_k0 (fun _ _ h => h) (hK56 _ _ _ _ _ ?_))
               clear hK56
               refine hQ.ret (rvs1 (rv_t rfl)) (fun _ _ h => h) fun w hb hs hB hkd => ?_
               first
                 | exact ⟨rfl, hb⟩
                 | (exfalso; exact phs92 rfl)
          ·exfalso
           omega
      ·exfalso
       omega
end Go.Proofs.Ytogcclagmobkiaa
