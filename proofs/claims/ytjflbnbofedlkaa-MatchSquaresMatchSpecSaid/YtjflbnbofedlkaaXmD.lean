/-
  More rules: structs within structs.
-/
import Derived.Lib.AppendZeros
import Derived.Sort.Grow
import Derived.Shelf.SlSortCmp.NoneTotal
import Derived.Test.YtjflbnbofedlkaaXmA
import Derived.Test.YtjflbnbofedlkaaXmB
import Derived.Test.YtjflbnbofedlkaaXmC

namespace Go.Proofs.Ytjflbnbofedlkaa.Hx
open Go Go.RowKit
set_option linter.unusedVariables false
set_option linter.unusedSimpArgs false
section
variable {P : Program} {B : Nat} {w0 : World} {H : HL} {α : Type} {E : Enc α} {a : Option Addr} {n cap : Nat} {xs : List α}
end
section
variable {P : Program} {N : Fr} {B : Nat} {w0 : World} {Q : Exit → Act → World → Prop} {al : AL} {H : HL} {ops : Array Oper} {Ss : List (Nat × HL)} {n : Nat} {listed : Array Bool}
theorem aq_three {i j l : Nat} {o o' o2 : Oper} (hr : Region.ready .any ops listed = [i, j, l]) (ho : ops[i]? = some o) (ho' : ops[j]? = some o') (ho2 : ops[l]? = some o2)
    (h : Next P N B w0 ops Q Ss n listed al H i o) (h' : Next P N B w0 ops Q Ss n listed al H j o') (h2 : Next P N B w0 ops Q Ss n listed al H l o2) : AQ P N B w0 ops Q Ss (n + 1) listed al H := by
  intro hsh a w hst hS
  refine ⟨fun h0 => (by rw [hr] at h0; cases h0), fun k hk => ?_⟩
  have hk' := hk
  rw [hr] at hk'
  rcases (by simpa using hk' : k = i ∨ k = j ∨ k = l) with rfl | rfl | rfl
  · exact aq_op ho (hsh.set hk) h a w hst
  · exact aq_op ho' (hsh.set hk) h' a w hst
  · exact aq_op ho2 (hsh.set hk) h2 a w hst
end
section
variable {P : Program}
/-- The fields from number i on lie one behind the other, and the values fit them; fields that are structs, too. -/
def okFG (P : Program) : Nat → List Field → Nat → List Value → List Value → Bool
  | 0, _, _, _, _ => false
  | _ + 1, [], _, [], [] => true
  | _ + 1, [], _, _, _ => false
  | k + 1, f :: fs, i, us, vs => !(f.name == "_") && Nat.beq f.offset i && (match P.underlying f.type with
    | some (.struct gs) => (match P.info? f.type with
      | some inf => Nat.ble inf.size us.length && Nat.ble inf.size vs.length && !P.stoodInHeld f.type && okFG P k gs.toList 0 (us.take inf.size) (vs.take inf.size) && okFG P k fs (i + inf.size) (us.drop inf.size) (vs.drop inf.size)
      | none => false)
    | some (.int _) => (match us, vs with | .int k1 _ :: us, .int k2 _ :: vs => decide (k1 = k2) && okFG P k fs (i + 1) us vs | _, _ => false)
    | some .bool => (match us, vs with | .bool _ :: us, .bool _ :: vs => okFG P k fs (i + 1) us vs | _, _ => false)
    | some .string => (match us, vs with | .string _ :: us, .string _ :: vs => okFG P k fs (i + 1) us vs | _, _ => false)
    | _ => false)
def okSG (P : Program) (t : TypeId) (us vs : List Value) : Bool := match P.underlying t with | some (.struct fs) => okFG P 50 fs.toList 0 us vs | _ => false
end
end Go.Proofs.Ytjflbnbofedlkaa.Hx

/-
  Segments: program and reference.
-/




namespace Go.Proofs.Ytjflbnbofedlkaa
open Go Go.RowKit Hx
set_option linter.unusedVariables false
set_option linter.unusedSimpArgs false
set_option maxRecDepth 8000
def encGate : Enc GateR := { size := 4, cells := fun x => [.int .i64 x.ax, .int .i64 x.ay, .int .i64 x.bx, .int .i64 x.by_], val := fun x => .agg #[.int .i64 x.ax, .int .i64 x.ay, .int .i64 x.bx, .int .i64 x.by_], len := fun _ => rfl, ones := fun _ u h => by simp at h; rcases h with rfl | rfl | rfl | rfl <;> rfl, pos := by decide, vc := fun _ => rfl }
theorem ty79 : Ty Try.prog 79 encGate := .inr ⟨ag79, fun _ => rfl⟩
theorem match_in (n a b : Int) (w : World) : Calls Try.prog 45 #[.int .i64 n, .int .i64 a, .int .i64 b] w fun e w' => e = .returned (.bool (inB n a b)) ∧ Below w.heap.size w w' := by
  refine enterQ (N := 15) (C := fun _ => True) (H := []) (B := w.heap.size) (args := [_, _, _]) Try.func45 rfl rfl rfl (Nat.le_refl _) (Sat.nil _ _) fun Q hQ => ?_
  refine wp_seq' fun K1 hK1 => ?_
  refine wp_reg ?_
  refine ol_r (r_assign rfl) rfl ?_
  refine ol_nil (to_k0 (fun _ _ h => h) (hK1 _ _ _ _ _ ?_))
  clear hK1
  refine wp_seq' fun K2 hK2 => ?_
  refine wp_reg ?_
  refine ol_r (r_move rfl) rfl ?_
  refine ol_r (r_move rfl) rfl ?_
  refine ol_r (r_geq rfl rfl) rfl ?_
  refine ol_r (r_move rfl) rfl ?_
  refine ol_split (d := 10) rfl (fun hs10 => ?_) (fun hs10 => ?_)
  ·have phs10 := hs10; try simp only [decide_eq_true_eq, decide_eq_false_iff_not, Bool.not_eq_true', Bool.not_eq_false', Bool.not_true, Bool.not_false] at phs10
   refine ol_g rfl rfl hs10 ?_
   refine ol_r (r_move rfl) rfl ?_
   refine ol_g rfl rfl hs10 ?_
   refine ol_r (r_move rfl) rfl ?_
   refine ol_g rfl rfl hs10 ?_
   refine ol_r (r_leq rfl rfl) rfl ?_
   refine ol_r (r_pickT rfl hs10 rfl) rfl ?_
   refine ol_r (r_assign rfl) rfl ?_
   refine ol_nil (to_k0 (fun _ _ h => h) (hK2 _ _ _ _ _ ?_))
   clear hK2
   refine hQ.ret (rvs1 (rv_t rfl)) (fun _ _ h => h) fun w hb hs hB hkd => ?_
   exact ⟨by simp [inB, hs10], hb⟩
  ·have phs10 := hs10; try simp only [decide_eq_true_eq, decide_eq_false_iff_not, Bool.not_eq_true', Bool.not_eq_false', Bool.not_true, Bool.not_false] at phs10
   refine ol_s rfl rfl hs10 rfl ?_
   refine ol_s rfl rfl hs10 rfl ?_
   refine ol_s rfl rfl hs10 rfl ?_
   refine ol_r (r_pickF rfl hs10 rfl) rfl ?_
   refine ol_r (r_assign rfl) rfl ?_
   refine ol_nil (to_k0 (fun _ _ h => h) (hK2 _ _ _ _ _ ?_))
   clear hK2
   refine hQ.ret (rvs1 (rv_t rfl)) (fun _ _ h => h) fun w hb hs hB hkd => ?_
   exact ⟨by simp [inB, hs10], hb⟩
theorem ref5_outside (n a b : Int) (w : World) : Calls Try.prog 47 #[.int .i64 n, .int .i64 a, .int .i64 b] w fun e w' => e = .returned (.bool (!inB n a b)) ∧ Below w.heap.size w w' := by
  refine enterQ (N := 15) (C := fun _ => True) (H := []) (B := w.heap.size) (args := [_, _, _]) Try.func47 rfl rfl rfl (Nat.le_refl _) (Sat.nil _ _) fun Q hQ => ?_
  refine wp_seq' fun K1 hK1 => ?_
  refine wp_reg ?_
  refine ol_r (r_assign rfl) rfl ?_
  refine ol_nil (to_k0 (fun _ _ h => h) (hK1 _ _ _ _ _ ?_))
  clear hK1
  refine wp_seq' fun K2 hK2 => ?_
  refine wp_reg ?_
  refine ol_r (r_move rfl) rfl ?_
  refine ol_r (r_move rfl) rfl ?_
  refine ol_r (r_lss rfl rfl) rfl ?_
  refine ol_r (r_move rfl) rfl ?_
  refine ol_split (d := 10) rfl (fun hs10 => ?_) (fun hs10 => ?_)
  ·have phs10 := hs10; try simp only [decide_eq_true_eq, decide_eq_false_iff_not, Bool.not_eq_true', Bool.not_eq_false', Bool.not_true, Bool.not_false] at phs10
   refine ol_s rfl rfl hs10 rfl ?_
   refine ol_s rfl rfl hs10 rfl ?_
   refine ol_s rfl rfl hs10 rfl ?_
   refine ol_r (r_pickT rfl hs10 rfl) rfl ?_
   refine ol_r (r_assign rfl) rfl ?_
   refine ol_nil (to_k0 (fun _ _ h => h) (hK2 _ _ _ _ _ ?_))
   clear hK2
   refine hQ.ret (rvs1 (rv_t rfl)) (fun _ _ h => h) fun w hb hs hB hkd => ?_
   exact ⟨by rw [inB_not.2 (.inl (by simpa using phs10))]; rfl, hb⟩
  ·have phs10 := hs10; try simp only [decide_eq_true_eq, decide_eq_false_iff_not, Bool.not_eq_true', Bool.not_eq_false', Bool.not_true, Bool.not_false] at phs10
   refine ol_g rfl rfl hs10 ?_
   refine ol_r (r_move rfl) rfl ?_
   refine ol_g rfl rfl hs10 ?_
   refine ol_r (r_move rfl) rfl ?_
   refine ol_g rfl rfl hs10 ?_
   refine ol_r (r_gtr rfl rfl) rfl ?_
   refine ol_r (r_pickF rfl hs10 rfl) rfl ?_
   refine ol_r (r_assign rfl) rfl ?_
   refine ol_nil (to_k0 (fun _ _ h => h) (hK2 _ _ _ _ _ ?_))
   clear hK2
   refine hQ.ret (rvs1 (rv_t rfl)) (fun _ _ h => h) fun w hb hs hB hkd => ?_
   have h2 : decide (b < n) = !inB n a b := by
     by_cases h : n ≤ b
     · rw [inB_iff.2 ⟨by omega, h⟩, decide_eq_false (by omega)]; rfl
     · rw [inB_not.2 (.inr (by omega)), decide_eq_true (by omega)]; rfl
   exact ⟨by rw [h2], hb⟩
theorem match_isPlace (x y : Int) (w : World) : Calls Try.prog 50 #[.agg #[.int .i64 x, .int .i64 y]] w fun e w' => e = .returned (.bool (ptB x y)) ∧ Below w.heap.size w w' := by
  refine enterQ (N := 11) (C := fun _ => True) (H := []) (B := w.heap.size) (args := [_]) Try.func50 rfl rfl rfl (Nat.le_refl _) (Sat.nil _ _) fun Q hQ => ?_
  refine wp_seq' fun K1 hK1 => ?_
  refine wp_reg ?_
  refine ol_box 1 rfl rfl rfl fun b1 => ?_
  refine ol_r (r_assign rfl) rfl ?_
  refine ol_nil (to_k0 (fun _ _ h => h) (hK1 _ _ _ _ _ ?_))
  clear hK1
  refine wp_seq' fun K2 hK2 => ?_
  refine wp_reg ?_
  refine ol_r (r_fa (o' := 0) rfl fl41_0 rfl) rfl ?_
  refine ol_r (r_ld (id := 1) rfl rfl rfl sc3) rfl ?_
  refine ol_call rfl rfl cb45 rfl (fun w1 hb1 hs1 hB1 => Calls.mono (match_in _ _ _ _) ?_)
  rintro e w2 ⟨rfl, hb2⟩
  refine After.below rfl hb1 hs1 hB1 hb2 ?_
  clear hb2 hB1 hs1 hb1 w2 w1
  refine ol_r (r_move rfl) rfl ?_
  refine ol_split (d := 6) rfl (fun hs6 => ?_) (fun hs6 => ?_)
  ·have phs6 := hs6; try simp only [decide_eq_true_eq, decide_eq_false_iff_not, Bool.not_eq_true', Bool.not_eq_false', Bool.not_true, Bool.not_false] at phs6
   refine ol_g rfl rfl hs6 ?_
   refine ol_r (r_fa (o' := 1) rfl fl41_1 rfl) rfl ?_
   refine ol_g rfl rfl hs6 ?_
   refine ol_r (r_ld (id := 1) rfl rfl rfl sc3) rfl ?_
   refine ol_g rfl rfl hs6 ?_
   refine ol_call rfl rfl cb45 rfl (fun w1 hb1 hs1 hB1 => Calls.mono (match_in _ _ _ _) ?_)
   rintro e w2 ⟨rfl, hb2⟩
   refine After.below rfl hb1 hs1 hB1 hb2 ?_
   clear hb2 hB1 hs1 hb1 w2 w1
   refine ol_r (r_pickT rfl hs6 rfl) rfl ?_
   refine ol_r (r_assign rfl) rfl ?_
   refine ol_nil (to_k0 (fun _ _ h => h) (hK2 _ _ _ _ _ ?_))
   clear hK2
   refine hQ.ret (rvs1 (rv_t rfl)) (fun _ _ h => h) fun w hb hs hB hkd => ?_
   refine ⟨?_, hb⟩
   unfold ptB
   first
     | (simp_all; done)
     | (congr 2; simp_all; done)
  ·have phs6 := hs6; try simp only [decide_eq_true_eq, decide_eq_false_iff_not, Bool.not_eq_true', Bool.not_eq_false', Bool.not_true, Bool.not_false] at phs6
   refine ol_s rfl rfl hs6 rfl ?_
   refine ol_s rfl rfl hs6 rfl ?_
   refine ol_s rfl rfl hs6 rfl ?_
   refine ol_r (r_pickF rfl hs6 rfl) rfl ?_
   refine ol_r (r_assign rfl) rfl ?_
   refine ol_nil (to_k0 (fun _ _ h => h) (hK2 _ _ _ _ _ ?_))
   clear hK2
   refine hQ.ret (rvs1 (rv_t rfl)) (fun _ _ h => h) fun w hb hs hB hkd => ?_
   refine ⟨?_, hb⟩
   unfold ptB
   first
     | (simp_all; done)
     | (congr 2; simp_all; done)
theorem pt_eqs {a b c d : Int} : eqs [.int .i64 a, .int .i64 b] [.int .i64 c, .int .i64 d] = (decide (a = c) && decide (b = d)) := by simp [eqs, eqV]
theorem pt_yes {a b c d : Int} (h : eqs [.int .i64 a, .int .i64 b] [.int .i64 c, .int .i64 d] = true) : a = c ∧ b = d := by rw [pt_eqs, Bool.and_eq_true, decide_eq_true_eq, decide_eq_true_eq] at h; exact h
theorem pt_no {a b c d : Int} (h : eqs [.int .i64 a, .int .i64 b] [.int .i64 c, .int .i64 d] = false) : ¬(a = c ∧ b = d) := by
  intro h2
  rw [pt_eqs, h2.1, h2.2] at h
  simp at h
theorem match_CheckSegment (nm : ByteArray) (a : Option Addr) (n c : Nat) (gs : List GateR) (w : World) (hn : nm.size ≤ 9223372036854775807) (hS : Rd encGate w.heap.size w a n c gs) :
    Calls Try.prog 101 #[.agg #[.string nm, .slice a n c]] w fun e w' => e = .returned (.int .i64 (chkSeg nm gs)) ∧ Below w.heap.size w w' := by
  have hsn := hS.len
  have hsf := hS.fit
  refine enterQ (N := 41) (C := fun _ => True) (H := []) (B := w.heap.size) (args := [_]) Try.func101 rfl rfl rfl (Nat.le_refl _) (Sat.nil _ _) fun Q hQ => ?_
  refine wp_seq' fun K1 hK1 => ?_
  refine wp_reg ?_
  refine ol_box 1 rfl rfl rfl fun b1 => ?_
  refine ol_r (r_assign rfl) rfl ?_
  refine ol_nil (to_k0 (fun _ _ h => h) (hK1 _ _ _ _ _ ?_))
  clear hK1
  refine wp_seq' fun K2 hK2 => ?_
  refine wp_block' ?_
  refine wp_seq' fun K3 hK3 => ?_
  refine wp_reg ?_
  refine ol_r (r_fa (o' := 0) rfl fl82_0 rfl) rfl ?_
  refine ol_r (r_ld (id := 1) rfl rfl rfl sc9) rfl ?_
  refine ol_call rfl rfl cb44 rfl (fun w1 hb1 hs1 hB1 => Calls.mono (quant_IsName nm _ hn) ?_)
  rintro e w2 ⟨rfl, hb2⟩
  refine After.below rfl hb1 hs1 hB1 hb2 ?_
  clear hb2 hB1 hs1 hb1 w2 w1
  refine ol_r (r_not rfl) rfl ?_
  refine ol_r (r_assign rfl) rfl ?_
  refine ol_nil (to_k0 (fun _ _ h => h) (hK3 _ _ _ _ _ ?_))
  clear hK3
  refine wp_condNB rfl (fun hc5 => ?_) (fun hc5 => ?_)
  ·refine wp_seq' fun K4 hK4 => ?_
   refine wp_reg ?_
   refine ol_r (r_assign rfl) rfl ?_
   refine ol_nil (to_k0 (fun _ _ h => h) (hK4 _ _ _ _ _ ?_))
   clear hK4
   refine hQ.ret (rvs1 (rv_t rfl)) (fun _ _ h => h) fun w hb hs hB hkd => ?_
   exact ⟨by rw [chkSeg_8 (by simpa using hc5)], hb⟩
  ·refine wp_seq' fun K5 hK5 => ?_
   refine wp_reg ?_
   refine ol_r (r_fa (o' := 1) rfl fl82_1 rfl) rfl ?_
   refine ol_r (r_ld (id := 1) rfl rfl rfl sc80) rfl ?_
   refine ol_r (r_len rfl sl80) rfl ?_
   refine ol_call rfl rfl cb45 rfl (fun w1 hb1 hs1 hB1 => Calls.mono (match_in _ _ _ _) ?_)
   rintro e w2 ⟨rfl, hb2⟩
   refine After.below rfl hb1 hs1 hB1 hb2 ?_
   clear hb2 hB1 hs1 hb1 w2 w1
   refine ol_r (r_not rfl) rfl ?_
   refine ol_r (r_assign rfl) rfl ?_
   refine ol_nil (to_k0 (fun _ _ h => h) (hK5 _ _ _ _ _ ?_))
   clear hK5
   refine wp_condNB rfl (fun hc10 => ?_) (fun hc10 => ?_)
   ·refine wp_seq' fun K6 hK6 => ?_
    refine wp_reg ?_
    refine ol_r (r_assign rfl) rfl ?_
    refine ol_nil (to_k0 (fun _ _ h => h) (hK6 _ _ _ _ _ ?_))
    clear hK6
    refine hQ.ret (rvs1 (rv_t rfl)) (fun _ _ h => h) fun w hb hs hB hkd => ?_
    exact ⟨by rw [chkSeg_3 (by simpa using hc5) (by subst hsn; simpa using hc10)], hb⟩
   ·refine wp_skip' (to_k0 (fun _ _ h => h) (hK2 _ _ _ _ _ ?_))
    clear hK2
    refine wp_seq' fun K7 hK7 => ?_
    refine wp_seq' fun K8 hK8 => ?_
    refine wp_reg ?_
    refine ol_r (r_fa (o' := 1) rfl fl82_1 rfl) rfl ?_
    refine ol_r (r_ld (id := 1) rfl rfl rfl sc80) rfl ?_
    refine ol_r (r_len rfl sl80) rfl ?_
    refine ol_r (r_move rfl) rfl ?_
    refine ol_nil (to_k0 (fun _ _ h => h) (hK8 _ _ _ _ _ ?_))
    clear hK8
    refine wp_block' ?_
    apply wp_loopM (σ := Nat) (fun s => s ≤ n ∧ chkE fG none gs = chkE fG (ahead gs s) (gs.drop s)) (fun s => [(19, .int .i64 s)]) [(17, _), (18, _)] (fun s => []) [(1, _)] (fun s => n - s) (0)
    ·try dsimp only
     exact ⟨Nat.zero_le _, chkE_start _ _⟩
    ·exact (sub_cons rfl sub_nil)
    ·exact (sub_cons rfl (sub_cons rfl sub_nil))
    ·exact subH_nil
    ·exact (subH_same rfl subH_nil)
    ·rintro k ⟨hk, hP⟩
     intro K9 hK9
     refine wp_seq' fun K10 hK10 => ?_
     refine wp_reg ?_
     refine ol_r (r_lss rfl rfl) rfl ?_
     refine ol_nil (to_k0 (fun _ _ h => h) (hK10 _ _ _ _ _ ?_))
     clear hK10
     refine wp_seq' fun K11 hK11 => ?_
     refine wp_condD rfl (fun hc20 => ?_) (fun hc20 => ?_)
     ·refine wp_skip' (to_k0 (fun _ _ h => h) (hK11 _ _ _ _ _ ?_))
      clear hK11
      refine wp_seq' fun K12 hK12 => ?_
      refine wp_block' ?_
      refine wp_seq' fun K13 hK13 => ?_
      refine wp_reg ?_
      refine ol_ixr hS rfl rfl sl80 (by omega) rfl fun x21 hx21 => ?_
      try simp only [Int.toNat_natCast] at hx21
      refine ol_r (r_ldw rfl (fun w1 hb1 hs1 hB1 => Rd.loads hS ty79 hx21 hb1)) rfl ?_
      refine ol_alloc 4 z79 rfl fun b4 => ?_
      refine ol_store (id := 4) rfl rfl rfl rfl sz79 rfl rfl (by first | decide | exact Nat.zero_lt_succ _ | simp) ?_
      refine ol_nil (to_k0 (fun _ _ h => h) (hK13 _ _ _ _ _ ?_))
      clear hK13
      refine wp_block' ?_
      refine wp_seq' fun K14 hK14 => ?_
      refine wp_reg ?_
      refine ol_r (r_fa (o' := 0) rfl fl79_0 rfl) rfl ?_
      refine ol_r (r_lda (id := 4) (n := 2) rfl rfl rfl ag41) rfl ?_
      refine ol_call rfl rfl cb50 rfl (fun w1 hb1 hs1 hB1 => Calls.mono (match_isPlace _ _ _) ?_)
      rintro e w2 ⟨rfl, hb2⟩
      refine After.below rfl hb1 hs1 hB1 hb2 ?_
      clear hb2 hB1 hs1 hb1 w2 w1
      refine ol_r (r_not rfl) rfl ?_
      refine ol_r (r_move rfl) rfl ?_
      refine ol_split (d := 28) rfl (fun hs28 => ?_) (fun hs28 => ?_)
      ·have phs28 := hs28; try simp only [decide_eq_true_eq, decide_eq_false_iff_not, Bool.not_eq_true', Bool.not_eq_false', Bool.not_true, Bool.not_false] at phs28
       refine ol_s rfl rfl hs28 rfl ?_
       refine ol_s rfl rfl hs28 rfl ?_
       refine ol_s rfl rfl hs28 rfl ?_
       refine ol_s rfl rfl hs28 rfl ?_
       refine ol_r (r_pickT rfl hs28 rfl) rfl ?_
       refine ol_r (r_assign rfl) rfl ?_
       refine ol_nil (to_k0 (fun _ _ h => h) (hK14 _ _ _ _ _ ?_))
       clear hK14
       refine wp_condT rfl ?_
       refine wp_seq' fun K15 hK15 => ?_
       refine wp_reg ?_
       refine ol_r (r_assign rfl) rfl ?_
       refine ol_nil (to_k0 (fun _ _ h => h) (hK15 _ _ _ _ _ ?_))
       clear hK15
       refine hQ.ret (rvs1 (rv_t rfl)) (fun _ _ h => h) fun w hb hs hB hkd => ?_
       have h := chkE_bad hP hx21 (fG_9 (.inl phs28)) (by simp)
       exact ⟨by rw [(chkSeg_g (by simpa using hc5) (by subst hsn; simpa using hc10)).trans h], hb⟩
      ·have phs28 := hs28; try simp only [decide_eq_true_eq, decide_eq_false_iff_not, Bool.not_eq_true', Bool.not_eq_false', Bool.not_true, Bool.not_false] at phs28
       refine ol_g rfl rfl hs28 ?_
       refine ol_r (r_fa (o' := 2) rfl fl79_1 rfl) rfl ?_
       refine ol_g rfl rfl hs28 ?_
       refine ol_r (r_lda (id := 4) (n := 2) rfl rfl rfl ag41) rfl ?_
       refine ol_g rfl rfl hs28 ?_
       refine ol_call rfl rfl cb50 rfl (fun w1 hb1 hs1 hB1 => Calls.mono (match_isPlace _ _ _) ?_)
       rintro e w2 ⟨rfl, hb2⟩
       refine After.below rfl hb1 hs1 hB1 hb2 ?_
       clear hb2 hB1 hs1 hb1 w2 w1
       refine ol_g rfl rfl hs28 ?_
       refine ol_r (r_not rfl) rfl ?_
       refine ol_r (r_pickF rfl hs28 rfl) rfl ?_
       refine ol_r (r_assign rfl) rfl ?_
       refine ol_nil (to_k0 (fun _ _ h => h) (hK14 _ _ _ _ _ ?_))
       clear hK14
       refine wp_condNB rfl (fun hc23 => ?_) (fun hc23 => ?_)
       ·refine wp_seq' fun K16 hK16 => ?_
        refine wp_reg ?_
        refine ol_r (r_assign rfl) rfl ?_
        refine ol_nil (to_k0 (fun _ _ h => h) (hK16 _ _ _ _ _ ?_))
        clear hK16
        refine hQ.ret (rvs1 (rv_t rfl)) (fun _ _ h => h) fun w hb hs hB hkd => ?_
        have h := chkE_bad hP hx21 (fG_9 (.inr hc23)) (by simp)
        exact ⟨by rw [(chkSeg_g (by simpa using hc5) (by subst hsn; simpa using hc10)).trans h], hb⟩
       ·refine wp_seq' fun K17 hK17 => ?_
        refine wp_reg ?_
        refine ol_r (r_fa (o' := 0) rfl fl79_0 rfl) rfl ?_
        refine ol_r (r_lda (id := 4) (n := 2) rfl rfl rfl ag41) rfl ?_
        refine ol_r (r_fa (o' := 2) rfl fl79_1 rfl) rfl ?_
        refine ol_r (r_lda (id := 4) (n := 2) rfl rfl rfl ag41) rfl ?_
        refine ol_r (r_eqs rfl rfl (by kernel_rfl) (fun w => run_eqs (by kernel_rfl) (by kernel_rfl) w)) rfl ?_
        refine ol_r (r_assign rfl) rfl ?_
        refine ol_nil (to_k0 (fun _ _ h => h) (hK17 _ _ _ _ _ ?_))
        clear hK17
        refine wp_cond' rfl (fun hc34 => ?_) (fun hc34 => ?_)
        ·refine wp_seq' fun K18 hK18 => ?_
         refine wp_reg ?_
         refine ol_r (r_assign rfl) rfl ?_
         refine ol_nil (to_k0 (fun _ _ h => h) (hK18 _ _ _ _ _ ?_))
         clear hK18
         refine hQ.ret (rvs1 (rv_t rfl)) (fun _ _ h => h) fun w hb hs hB hkd => ?_
         have h := chkE_bad hP hx21 (fG_2 phs28 hc23 (pt_yes hc34)) (by simp)
         exact ⟨by rw [(chkSeg_g (by simpa using hc5) (by subst hsn; simpa using hc10)).trans h], hb⟩
        ·refine wp_skip' (to_k0 (fun _ _ h => h) (hK12 _ _ _ _ _ ?_))
         clear hK12
         refine wp_reg ?_
         refine ol_r (r_add rfl rfl (by omega)) rfl ?_
         refine ol_r (r_move rfl) rfl ?_
         refine ol_nil (to_k0 (fun _ _ h => h) (hK9 (k + 1) _ _ ?_ ?_ (sub_cons rfl sub_nil) (sub_cons rfl (sub_cons rfl sub_nil)) (by exact subH_nil) (subH_same rfl subH_nil)))
         ·try dsimp only
          exact ⟨by omega, chkE_next hP hx21 (fG_0 phs28 hc23 (pt_no hc34))⟩
         ·try dsimp only
          omega
     ·refine wp_exit' (to_k0 (fun _ _ h => h) (hK7 _ _ _ _ _ ?_))
      clear hK7
      refine wp_seq' fun K19 hK19 => ?_
      refine wp_reg ?_
      refine ol_r (r_assign rfl) rfl ?_
      refine ol_nil (to_k0 (fun _ _ h => h) (hK19 _ _ _ _ _ ?_))
      clear hK19
      refine hQ.ret (rvs1 (rv_t rfl)) (fun _ _ h => h) fun w hb hs hB hkd => ?_
      exact ⟨by rw [(chkSeg_g (by simpa using hc5) (by subst hsn; simpa using hc10)).trans (chkE_end hP (by omega))], hb⟩
def bIx (n : Nat) : Nat → Int
  | 0 => (n : Int) - 1
  | k + 1 => bIx n k - 1
end Go.Proofs.Ytjflbnbofedlkaa

/-
  The steps of an activity: the iterator.
-/


namespace Go.Proofs.Ytjflbnbofedlkaa
open Go Go.RowKit Hx
set_option linter.unusedVariables false
set_option linter.unusedSimpArgs false
set_option maxRecDepth 8000
theorem steps_iter (A : ActV) (B b : Nat) (w0 : World) (hA : Rd encSmp B w0 A.sa A.sn A.sc A.ss) :
    Iter Try.prog 87 [.pointer (some ⟨b, 0, none⟩)] (fun x : SmpR × SmpR => [.agg #[.int .i64 x.1.at_, .int .i64 x.1.x, .int .i64 x.1.y, .int .i64 x.1.z, .int .i64 x.1.pulse, .int .i64 x.1.power, .int .i64 x.1.steps], .agg #[.int .i64 x.2.at_, .int .i64 x.2.x, .int .i64 x.2.y, .int .i64 x.2.z, .int .i64 x.2.pulse, .int .i64 x.2.power, .int .i64 x.2.steps]]) (stepsL A.ss) (fun W => Below B w0 W ∧ (∃ T, Sat B W [(100, .blk b [(3, .slice A.sa A.sn A.sc)] T)]) ∧ B ≤ W.heap.size) := by
  intro l J Jx W hRq hJb hJx hY h0
  have hsn := hA.len
  have hsf := hA.fit
  have hlen := stepsL_len A.ss
  refine enterI (n := 25) (args := [_, _]) Try.func87 rfl rfl rfl rfl fun Q hQ => ?_
  refine wp_seq' fun K1 hK1 => ?_
  refine wp_reg ?_
  refine ol_r (r_assign rfl) rfl ?_
  refine ol_nil (to_k0 (fun _ _ h => h) (hK1 _ _ _ _ _ ?_))
  clear hK1
  refine wp_block' ?_
  refine wp_loopI (J := J) (fun k => [(3, .int .i64 (k + 1)), (0, .func (.yield l) #[] #[]), (1, .pointer (some ⟨b, 0, none⟩))]) (fun k => k ≤ (stepsL A.ss).length) (fun k => (stepsL A.ss).length - k) (0) ?_ ?_ ?_ ?_
  ·try dsimp only
   omega
  ·exact (sub_cons rfl (sub_cons rfl (sub_cons rfl sub_nil)))
  ·intro w hb hB
   exact hJb 0 W w h0 hb
  ·intro k W1 hI hJ
   obtain ⟨q1, ⟨T, q2⟩, q3⟩ := hRq k W1 hJ
   have hc : Blk W1.heap.size W1 b [(3, .slice A.sa A.sn A.sc)] := q2.blk (id := 100) rfl
   have hS := hA.at q1 q3
   intro K2 hK2
   refine wp_seq' fun K3 hK3 => ?_
   refine wp_seq' fun K4 hK4 => ?_
   refine wp_reg ?_
   refine ol_r (r_move rfl) rfl ?_
   refine ol_r (r_fa (o' := 3) rfl fl39_3 rfl) rfl ?_
   refine ol_r (r_ldw rfl (fun w1 hb1 hs1 hB1 => Blk.loads (o := 3) hc hb1 sc35 rfl)) rfl ?_
   refine ol_r (r_len rfl sl35) rfl ?_
   refine ol_r (r_lss rfl rfl) rfl ?_
   refine ol_nil (to_k0 (fun _ _ h => h) (hK4 _ _ _ _ _ ?_))
   clear hK4
   refine wp_condD rfl (fun hc8 => ?_) (fun hc8 => ?_)
   ·refine wp_skip' (to_k0 (fun _ _ h => h) (hK3 _ _ _ _ _ ?_))
    clear hK3
    refine wp_seq' fun K5 hK5 => ?_
    refine wp_block' ?_
    refine wp_seq' fun K6 hK6 => ?_
    refine wp_regti 12 rfl (by kernel_rfl) (by kernel_rfl) ?_
    simp only [List.take_succ_cons, List.take_zero, List.drop_succ_cons, List.drop_zero]
    refine sli_r (r_move rfl) rfl ?_
    refine sli_r (r_fa (o' := 3) rfl fl39_3 rfl) rfl ?_
    refine sli_r (r_ldw rfl (fun w1 hb1 hs1 hB1 => Blk.loads (o := 3) hc hb1 sc35 rfl)) rfl ?_
    refine sli_r (r_move rfl) rfl ?_
    refine sli_r (r_sub rfl rfl (by omega)) rfl ?_
    refine sli_ixr hS rfl rfl sl35 (by omega) rfl fun x16 hx16 => ?_
    try simp only [Int.toNat_natCast] at hx16
    refine sli_r (r_ldw rfl (fun w1 hb1 hs1 hB1 => Rd.loads hS ty51 hx16 hb1)) rfl ?_
    refine sli_r (r_fa (o' := 3) rfl fl39_3 rfl) rfl ?_
    refine sli_r (r_ldw rfl (fun w1 hb1 hs1 hB1 => Blk.loads (o := 3) hc hb1 sc35 rfl)) rfl ?_
    refine sli_r (r_move rfl) rfl ?_
    refine sli_ixr hS rfl rfl sl35 (by omega) rfl fun x21 hx21 => ?_
    try simp only [Int.toNat_natCast] at hx21
    refine sli_r (r_ldw rfl (fun w1 hb1 hs1 hB1 => Rd.loads hS ty51 hx21 hb1)) rfl ?_
    refine sli_nil ?_
    refine oli_yield rfl rfl rfl rfl rfl (fun w1 hb1 hs1 hB1 => ?_)
    obtain ⟨fn, tm, asg, bo, hy, hR⟩ := hY k (x16, x21) w1 (stepsL_get (by rw [← hx16]; congr 1; omega) (by rw [← hx21]; congr 1)) (hJb k W1 w1 hJ hb1)
    refine ⟨fn, tm, asg, bo, hy, hR.mono ?_⟩
    intro e w2 he
    obtain ⟨bb, rfl, hT, hF⟩ : ∃ bb, e = .returned (.bool bb) ∧ (bb = true → J (k + 1) w2) ∧ (bb = false → Jx w2) := by
      rcases he with ⟨rfl, h⟩ | ⟨rfl, h⟩
      · exact ⟨true, rfl, fun _ => h, fun h => by cases h⟩
      · exact ⟨false, rfl, fun h => (by cases h), fun _ => h⟩
    refine ⟨_, rfl, ?_⟩
    refine oli_r (r_not rfl) rfl ?_
    refine oli_nil (to_k0 (fun _ _ h => h) (hK6 _ _ _ _ _ ?_))
    clear hK6
    refine wp_condNB rfl (fun hc24 => ?_) (fun hc24 => ?_)
    ·refine hQ.ret (fun _ _ h => h) fun w hb hs hB => ?_
     exact .inr (hJx _ _ (hF hc24) hb)
    ·refine wp_skip' (to_k0 (fun _ _ h => h) (hK5 _ _ _ _ _ ?_))
     clear hK5
     refine wp_reg ?_
     refine ol_r (r_move rfl) rfl ?_
     refine ol_r (r_add rfl rfl (by omega)) rfl ?_
     refine ol_r (r_assign rfl) rfl ?_
     refine ol_nil (to_k0 (fun _ _ h => h) (hK2 (k + 1) _ _ _ _ ?_ ?_ (by exact (sub_cons rfl (sub_cons rfl (sub_cons rfl sub_nil)))) ?_))
     ·try dsimp only
      omega
     ·try dsimp only
      omega
     ·intro w hb hB
      exact hJb (k + 1) _ w (hT hc24) hb
   ·refine wp_exit' (hQ.fall (fun _ _ h => h) fun w hb hs hB => ?_)
    have hk : k = (stepsL A.ss).length := by omega
    exact .inl (hk ▸ hJb k _ w hJ hb)
theorem track_Steps (A : ActV) (w : World) (hA : A.Ok w.heap.size w) :
    Calls Try.prog 56 #[.agg #[.string A.name, .int .i64 A.sport, .int .i64 A.start, .slice A.sa A.sn A.sc, .slice A.la A.ln A.lc, .slice A.ta A.tn A.tc]] w fun e w' => ∃ b T, e = .returned (.func (.func 87) #[] #[.pointer (some ⟨b, 0, none⟩)]) ∧ Below w.heap.size w w' ∧ Sat w.heap.size w' [(1001, .blk b [(3, .slice A.sa A.sn A.sc)] T)] := by
  refine enterQ (N := 4) (C := fun _ => True) (H := []) (B := w.heap.size) (args := [_]) Try.func56 rfl rfl rfl (Nat.le_refl _) (Sat.nil _ _) fun Q hQ => ?_
  refine wp_seq' fun K1 hK1 => ?_
  refine wp_reg ?_
  refine ol_box 1 rfl rfl rfl fun b1 => ?_
  refine ol_r (r_assign rfl) rfl ?_
  refine ol_nil (to_k0 (fun _ _ h => h) (hK1 _ _ _ _ _ ?_))
  clear hK1
  refine wp_seq' fun K2 hK2 => ?_
  refine wp_reg ?_
  refine ol_r (r_func rfl) rfl ?_
  refine ol_r (r_assign rfl) rfl ?_
  refine ol_nil (to_k0 (fun _ _ h => h) (hK2 _ _ _ _ _ ?_))
  clear hK2
  refine hQ.ret (rvs1 (rv_t rfl)) (fun _ _ h => h) fun w hb hs hB hkd => ?_
  exact ⟨_, _, rfl, hb, hs.one 1 1001 rfl ⟨rfl, rfl, Sub.out (sub_cons rfl sub_nil)⟩⟩
end Go.Proofs.Ytjflbnbofedlkaa

/-
  Steps across gates: what crosses; the program's side.
-/



namespace Go.Proofs.Ytjflbnbofedlkaa
open Go Go.RowKit Hx
set_option linter.unusedVariables false
set_option linter.unusedSimpArgs false
set_option maxRecDepth 8000
def encPart : Enc PartR := { size := 2, cells := fun x => [.int .i64 x.num, .int .i64 x.den], val := fun x => .agg #[.int .i64 x.num, .int .i64 x.den], len := fun _ => rfl, ones := fun _ u h => by simp at h; rcases h with rfl | rfl <;> rfl, pos := by decide, vc := fun _ => rfl }
theorem ty152 : Ty Try.prog 152 encPart := .inr ⟨ag152, fun _ => rfl⟩
def encCr : Enc CrossR := { size := 3, cells := fun x => [.int .i64 x.gate, .int .i64 x.step, .int .i64 x.at_], val := fun x => .agg #[.int .i64 x.gate, .int .i64 x.step, .int .i64 x.at_], len := fun _ => rfl, ones := fun _ u h => by simp at h; rcases h with rfl | rfl | rfl <;> rfl, pos := by decide, vc := fun _ => rfl }
theorem ty88 : Ty Try.prog 88 encCr := .inr ⟨ag88, fun _ => rfl⟩
theorem match_sideOf (ax ay bx by_ x y : Int) (w : World) (h1 : -100000000 ≤ ax ∧ ax ≤ 100000000) (h2 : -100000000 ≤ ay ∧ ay ≤ 100000000) (h3 : -100000000 ≤ bx ∧ bx ≤ 100000000) (h4 : -100000000 ≤ by_ ∧ by_ ≤ 100000000) (h5 : -100000000 ≤ x ∧ x ≤ 100000000) (h6 : -100000000 ≤ y ∧ y ≤ 100000000) :
    Calls Try.prog 128 #[.agg #[.int .i64 ax, .int .i64 ay], .agg #[.int .i64 bx, .int .i64 by_], .agg #[.int .i64 x, .int .i64 y]] w fun e w' => e = .returned (.int .i64 (side6 ax ay bx by_ x y)) ∧ Below w.heap.size w w' := by
  have m1 := mul_ab (a := bx - ax) (b := y - ay) (by omega) (by omega)
  have m2 := mul_ab (a := by_ - ay) (b := x - ax) (by omega) (by omega)
  refine enterQ (N := 30) (C := fun _ => True) (H := []) (B := w.heap.size) (args := [_, _, _]) Try.func128 rfl rfl rfl (Nat.le_refl _) (Sat.nil _ _) fun Q hQ => ?_
  refine wp_seq' fun K1 hK1 => ?_
  refine wp_reg ?_
  refine ol_box 3 rfl rfl rfl fun b3 => ?_
  refine ol_box 4 rfl rfl rfl fun b4 => ?_
  refine ol_box 5 rfl rfl rfl fun b5 => ?_
  refine ol_r (r_assign rfl) rfl ?_
  refine ol_nil (to_k0 (fun _ _ h => h) (hK1 _ _ _ _ _ ?_))
  clear hK1
  refine wp_seq' fun K2 hK2 => ?_
  refine wp_reg ?_
  refine ol_r (r_fa (o' := 0) rfl fl41_0 rfl) rfl ?_
  refine ol_r (r_ld (id := 4) rfl rfl rfl sc3) rfl ?_
  refine ol_r (r_fa (o' := 0) rfl fl41_0 rfl) rfl ?_
  refine ol_r (r_ld (id := 3) rfl rfl rfl sc3) rfl ?_
  refine ol_r (r_sub rfl rfl (by omega)) rfl ?_
  refine ol_r (r_fa (o' := 1) rfl fl41_1 rfl) rfl ?_
  refine ol_r (r_ld (id := 5) rfl rfl rfl sc3) rfl ?_
  refine ol_r (r_fa (o' := 1) rfl fl41_1 rfl) rfl ?_
  refine ol_r (r_ld (id := 3) rfl rfl rfl sc3) rfl ?_
  refine ol_r (r_sub rfl rfl (by omega)) rfl ?_
  refine ol_r (r_mul rfl rfl (by omega)) rfl ?_
  refine ol_r (r_fa (o' := 1) rfl fl41_1 rfl) rfl ?_
  refine ol_r (r_ld (id := 4) rfl rfl rfl sc3) rfl ?_
  refine ol_r (r_fa (o' := 1) rfl fl41_1 rfl) rfl ?_
  refine ol_r (r_ld (id := 3) rfl rfl rfl sc3) rfl ?_
  refine ol_r (r_sub rfl rfl (by omega)) rfl ?_
  refine ol_r (r_fa (o' := 0) rfl fl41_0 rfl) rfl ?_
  refine ol_r (r_ld (id := 5) rfl rfl rfl sc3) rfl ?_
  refine ol_r (r_fa (o' := 0) rfl fl41_0 rfl) rfl ?_
  refine ol_r (r_ld (id := 3) rfl rfl rfl sc3) rfl ?_
  refine ol_r (r_sub rfl rfl (by omega)) rfl ?_
  refine ol_r (r_mul rfl rfl (by omega)) rfl ?_
  refine ol_r (r_sub rfl rfl (by omega)) rfl ?_
  refine ol_r (r_assign rfl) rfl ?_
  refine ol_nil (to_k0 (fun _ _ h => h) (hK2 _ _ _ _ _ ?_))
  clear hK2
  refine hQ.ret (rvs1 (rv_t rfl)) (fun _ _ h => h) fun w hb hs hB hkd => ?_
  exact ⟨rfl, hb⟩
theorem side6_bd {ax ay bx by_ x y : Int} (h1 : -100000000 ≤ ax ∧ ax ≤ 100000000) (h2 : -100000000 ≤ ay ∧ ay ≤ 100000000) (h3 : -100000000 ≤ bx ∧ bx ≤ 100000000) (h4 : -100000000 ≤ by_ ∧ by_ ≤ 100000000) (h5 : -100000000 ≤ x ∧ x ≤ 100000000) (h6 : -100000000 ≤ y ∧ y ≤ 100000000) : -80000000000000000 ≤ side6 ax ay bx by_ x y ∧ side6 ax ay bx by_ x y ≤ 80000000000000000 := by
  have m1 := mul_ab (a := bx - ax) (b := y - ay) (by omega) (by omega)
  have m2 := mul_ab (a := by_ - ay) (b := x - ax) (by omega) (by omega)
  unfold side6
  omega
theorem match_pointOf (p : SmpR) (w : World) : Calls Try.prog 55 #[.agg #[.int .i64 p.at_, .int .i64 p.x, .int .i64 p.y, .int .i64 p.z, .int .i64 p.pulse, .int .i64 p.power, .int .i64 p.steps]] w fun e w' => e = .returned (.agg #[.int .i64 p.x, .int .i64 p.y]) ∧ Below w.heap.size w w' := by
  refine enterQ (N := 8) (C := fun _ => True) (H := []) (B := w.heap.size) (args := [_]) Try.func55 rfl rfl rfl (Nat.le_refl _) (Sat.nil _ _) fun Q hQ => ?_
  refine wp_seq' fun K1 hK1 => ?_
  refine wp_reg ?_
  refine ol_box 1 rfl rfl rfl fun b1 => ?_
  refine ol_alloc 2 z41 rfl fun b2 => ?_
  refine ol_nil (to_k0 (fun _ _ h => h) (hK1 _ _ _ _ _ ?_))
  clear hK1
  refine wp_seq' fun K2 hK2 => ?_
  refine wp_reg ?_
  refine ol_r (r_fa (o' := 1) rfl fl51_1 rfl) rfl ?_
  refine ol_r (r_ld (id := 1) rfl rfl rfl sc3) rfl ?_
  refine ol_r (r_fa (o' := 2) rfl fl51_2 rfl) rfl ?_
  refine ol_r (r_ld (id := 1) rfl rfl rfl sc3) rfl ?_
  refine ol_r (r_build rfl (fun _ => bd41_0_1 _ _ _)) rfl ?_
  refine ol_store (id := 2) rfl rfl rfl rfl sz41 rfl rfl (by first | decide | exact Nat.zero_lt_succ _ | simp) ?_
  refine ol_nil (to_k0 (fun _ _ h => h) (hK2 _ _ _ _ _ ?_))
  clear hK2
  refine hQ.ret (rvs1 (rv_c (id := 2) (n := 2) rfl rfl ag41 rfl)) (fun _ _ h => h) fun w hb hs hB hkd => ?_
  exact ⟨rfl, hb⟩
theorem gate_bd {g : GateR} (h : ∀ p, fG p g = 0) : ((-100000000 ≤ g.ax ∧ g.ax ≤ 100000000) ∧ (-100000000 ≤ g.ay ∧ g.ay ≤ 100000000)) ∧ ((-100000000 ≤ g.bx ∧ g.bx ≤ 100000000) ∧ (-100000000 ≤ g.by_ ∧ g.by_ ≤ 100000000)) := by
  obtain ⟨h1, h2, _⟩ := fG_inv (h none)
  unfold ptB at h1 h2
  rw [Bool.and_eq_true] at h1 h2
  exact ⟨⟨inB_iff.1 h1.1, inB_iff.1 h1.2⟩, ⟨inB_iff.1 h2.1, inB_iff.1 h2.2⟩⟩
theorem match_crosses (g : GateR) (p q : SmpR) (w : World) (hg : ∀ o, fG o g = 0) (hp : PlaceOk p) (hq : PlaceOk q) :
    Calls Try.prog 102 #[encGate.val g, .agg #[.int .i64 p.at_, .int .i64 p.x, .int .i64 p.y, .int .i64 p.z, .int .i64 p.pulse, .int .i64 p.power, .int .i64 p.steps], .agg #[.int .i64 q.at_, .int .i64 q.x, .int .i64 q.y, .int .i64 q.z, .int .i64 q.pulse, .int .i64 q.power, .int .i64 q.steps]] w fun e w' => e = .returned (.tuple #[.agg #[.int .i64 (partOf g p q).num, .int .i64 (partOf g p q).den], .bool (crB g p q)]) ∧ Below w.heap.size w w' := by
  obtain ⟨⟨g1, g2⟩, g3, g4⟩ := gate_bd hg
  obtain ⟨p1, p2⟩ := hp
  obtain ⟨q1, q2⟩ := hq
  have b1 := side6_bd g1 g2 g3 g4 p1 p2
  have b2 := side6_bd g1 g2 g3 g4 q1 q2
  refine enterQ (N := 68) (C := fun _ => True) (H := []) (B := w.heap.size) (args := [_, _, _]) Try.func102 rfl rfl rfl (Nat.le_refl _) (Sat.nil _ _) fun Q hQ => ?_
  refine wp_seq' fun K1 hK1 => ?_
  refine wp_reg ?_
  refine ol_box 3 rfl rfl rfl fun b3 => ?_
  refine ol_box 4 rfl rfl rfl fun b4 => ?_
  refine ol_box 5 rfl rfl rfl fun b5 => ?_
  refine ol_alloc 6 z152 rfl fun b6 => ?_
  refine ol_r (r_assign rfl) rfl ?_
  refine ol_nil (to_k0 (fun _ _ h => h) (hK1 _ _ _ _ _ ?_))
  clear hK1
  apply wp_seq_cutM (σ := Nat × Nat) (fun s => True) (fun s => [(8, .pointer (some ⟨s.1, 0, none⟩)), (9, .pointer (some ⟨s.2, 0, none⟩))]) [(3, _), (6, _), (7, _)] (fun s => [(8, .blk s.1 (pairs 0 [.int .i64 p.x, .int .i64 p.y]) 41), (9, .blk s.2 (pairs 0 [.int .i64 q.x, .int .i64 q.y]) 41)]) [(3, _), (4, _), (5, _), (6, _)]
  ·exact (sub_cons rfl (sub_cons rfl (sub_cons rfl sub_nil)))
  ·exact (subH_same rfl (subH_same rfl (subH_same rfl (subH_same rfl subH_nil))))
  ·intro K2 hK2
   refine wp_rega [(999, [(3, _), (4, _), (5, _), (6, _)])] (by kernel_rfl) ⟨.inr (subH_same rfl (subH_same rfl (subH_same rfl (subH_same rfl subH_nil)))), trivial⟩ ?_
   refine aq_r 0 999 rfl (by kernel_rfl) (by kernel_rfl) (by kernel_rfl) (.head _) (by kernel_rfl) (by kernel_rfl) rfl (r_lda (id := 4) (n := 7) rfl rfl rfl ag51) ?_
   refine aq_r 2 999 rfl (by kernel_rfl) (by kernel_rfl) (by kernel_rfl) (.head _) (by kernel_rfl) (by kernel_rfl) rfl (r_lda (id := 5) (n := 7) rfl rfl rfl ag51) ?_
   refine aq_three (i := 1) (j := 4) (l := 5) (by kernel_rfl) rfl rfl rfl (fun K3 hK3 => ?_) (fun K3 hK3 => ?_) (fun K3 hK3 => ?_)
   ·refine ol_call rfl rfl cb55 rfl (fun w1 hb1 hs1 hB1 => Calls.mono (match_pointOf _ _) ?_)
    rintro e w2 ⟨rfl, hb2⟩
    refine After.below rfl hb1 hs1 hB1 hb2 ?_
    clear hb2 hB1 hs1 hb1 w2 w1
    refine ol_nil (to_k0 (fun _ _ h => h) (hK3 _ _ ⟨.inr (by repeat' first | exact subH_nil | refine subH_same rfl ?_ | (refine subH_blk rfl (by repeat' first | exact sub_nil | refine sub_cons rfl ?_) ?_)), trivial⟩ ?_))
    clear hK3
    refine aq_three (i := 3) (j := 4) (l := 5) (by kernel_rfl) rfl rfl rfl (fun K4 hK4 => ?_) (fun K4 hK4 => ?_) (fun K4 hK4 => ?_)
    ·refine ol_call rfl rfl cb55 rfl (fun w1 hb1 hs1 hB1 => Calls.mono (match_pointOf _ _) ?_)
     rintro e w2 ⟨rfl, hb2⟩
     refine After.below rfl hb1 hs1 hB1 hb2 ?_
     clear hb2 hB1 hs1 hb1 w2 w1
     refine ol_nil (to_k0 (fun _ _ h => h) (hK4 _ _ ⟨.inr (by repeat' first | exact subH_nil | refine subH_same rfl ?_ | (refine subH_blk rfl (by repeat' first | exact sub_nil | refine sub_cons rfl ?_) ?_)), trivial⟩ ?_))
     clear hK4
     refine aq_two (i := 4) (j := 5) (by kernel_rfl) rfl rfl (fun K5 hK5 => ?_) (fun K5 hK5 => ?_)
     ·refine ol_alloc 8 z41 rfl fun b8 => ?_
      refine ol_nil (to_k0 (fun _ _ h => h) (hK5 _ _ ⟨.inr (by repeat' first | exact subH_nil | refine subH_same rfl ?_ | (refine subH_blk rfl (by repeat' first | exact sub_nil | refine sub_cons rfl ?_) ?_)), trivial⟩ ?_))
      clear hK5
      refine aq_one (i := 5) (by kernel_rfl) rfl fun K6 hK6 => ?_
      refine ol_alloc 9 z41 rfl fun b9 => ?_
      refine ol_nil (to_k0 (fun _ _ h => h) (hK6 _ _ ⟨.inr (by repeat' first | exact subH_nil | refine subH_same rfl ?_ | (refine subH_blk rfl (by repeat' first | exact sub_nil | refine sub_cons rfl ?_) ?_)), trivial⟩ ?_))
      clear hK6
      refine aq_one (i := 6) (by kernel_rfl) rfl fun K7 hK7 => ?_
      refine ol_store (id := 8) rfl rfl rfl rfl sz41 rfl rfl (by first | decide | exact Nat.zero_lt_succ _ | simp) ?_
      refine ol_nil (to_k0 (fun _ _ h => h) (hK7 _ _ ⟨.inr (by repeat' first | exact subH_nil | refine subH_same rfl ?_ | (refine subH_blk rfl (by repeat' first | exact sub_nil | refine sub_cons rfl ?_) ?_)), trivial⟩ ?_))
      clear hK7
      refine aq_one (i := 7) (by kernel_rfl) rfl fun K8 hK8 => ?_
      refine ol_store (id := 9) rfl rfl rfl rfl sz41 rfl rfl (by first | decide | exact Nat.zero_lt_succ _ | simp) ?_
      refine ol_nil (to_k0 (fun _ _ h => h) (hK8 _ _ ⟨.inr (by repeat' first | exact subH_nil | refine subH_same rfl ?_ | (refine subH_blk rfl (by repeat' first | exact sub_nil | refine sub_cons rfl ?_) ?_)), trivial⟩ ?_))
      clear hK8
      refine aq_done (by kernel_rfl) ?_
      refine (to_k0 (fun _ _ h => h) (hK2 ((b8, b9)) _ _ ?_ (sub_cons rfl (sub_cons rfl sub_nil)) (sub_cons rfl (sub_cons rfl (sub_cons rfl sub_nil))) (subH_blk rfl (by repeat' first | exact sub_nil | refine sub_cons rfl ?_) (subH_blk rfl (by repeat' first | exact sub_nil | refine sub_cons rfl ?_) subH_nil)) (subH_same rfl (subH_same rfl (subH_same rfl (subH_same rfl subH_nil))))))
      try dsimp only
      all_goals trivial
     ·refine ol_alloc 9 z41 rfl fun b9 => ?_
      refine ol_nil (to_k0 (fun _ _ h => h) (hK5 _ _ ⟨.inr (by repeat' first | exact subH_nil | refine subH_same rfl ?_ | (refine subH_blk rfl (by repeat' first | exact sub_nil | refine sub_cons rfl ?_) ?_)), trivial⟩ ?_))
      clear hK5
      refine aq_one (i := 4) (by kernel_rfl) rfl fun K6 hK6 => ?_
      refine ol_alloc 8 z41 rfl fun b8 => ?_
      refine ol_nil (to_k0 (fun _ _ h => h) (hK6 _ _ ⟨.inr (by repeat' first | exact subH_nil | refine subH_same rfl ?_ | (refine subH_blk rfl (by repeat' first | exact sub_nil | refine sub_cons rfl ?_) ?_)), trivial⟩ ?_))
      clear hK6
      refine aq_one (i := 6) (by kernel_rfl) rfl fun K7 hK7 => ?_
      refine ol_store (id := 8) rfl rfl rfl rfl sz41 rfl rfl (by first | decide | exact Nat.zero_lt_succ _ | simp) ?_
      refine ol_nil (to_k0 (fun _ _ h => h) (hK7 _ _ ⟨.inr (by repeat' first | exact subH_nil | refine subH_same rfl ?_ | (refine subH_blk rfl (by repeat' first | exact sub_nil | refine sub_cons rfl ?_) ?_)), trivial⟩ ?_))
      clear hK7
      refine aq_one (i := 7) (by kernel_rfl) rfl fun K8 hK8 => ?_
      refine ol_store (id := 9) rfl rfl rfl rfl sz41 rfl rfl (by first | decide | exact Nat.zero_lt_succ _ | simp) ?_
      refine ol_nil (to_k0 (fun _ _ h => h) (hK8 _ _ ⟨.inr (by repeat' first | exact subH_nil | refine subH_same rfl ?_ | (refine subH_blk rfl (by repeat' first | exact sub_nil | refine sub_cons rfl ?_) ?_)), trivial⟩ ?_))
      clear hK8
      refine aq_done (by kernel_rfl) ?_
      refine (to_k0 (fun _ _ h => h) (hK2 ((b8, b9)) _ _ ?_ (sub_cons rfl (sub_cons rfl sub_nil)) (sub_cons rfl (sub_cons rfl (sub_cons rfl sub_nil))) (subH_blk rfl (by repeat' first | exact sub_nil | refine sub_cons rfl ?_) (subH_blk rfl (by repeat' first | exact sub_nil | refine sub_cons rfl ?_) subH_nil)) (subH_same rfl (subH_same rfl (subH_same rfl (subH_same rfl subH_nil))))))
      try dsimp only
      all_goals trivial
    ·refine ol_alloc 8 z41 rfl fun b8 => ?_
     refine ol_nil (to_k0 (fun _ _ h => h) (hK4 _ _ ⟨.inr (by repeat' first | exact subH_nil | refine subH_same rfl ?_ | (refine subH_blk rfl (by repeat' first | exact sub_nil | refine sub_cons rfl ?_) ?_)), trivial⟩ ?_))
     clear hK4
     refine aq_two (i := 3) (j := 5) (by kernel_rfl) rfl rfl (fun K5 hK5 => ?_) (fun K5 hK5 => ?_)
     ·refine ol_call rfl rfl cb55 rfl (fun w1 hb1 hs1 hB1 => Calls.mono (match_pointOf _ _) ?_)
      rintro e w2 ⟨rfl, hb2⟩
      refine After.below rfl hb1 hs1 hB1 hb2 ?_
      clear hb2 hB1 hs1 hb1 w2 w1
      refine ol_nil (to_k0 (fun _ _ h => h) (hK5 _ _ ⟨.inr (by repeat' first | exact subH_nil | refine subH_same rfl ?_ | (refine subH_blk rfl (by repeat' first | exact sub_nil | refine sub_cons rfl ?_) ?_)), trivial⟩ ?_))
      clear hK5
      refine aq_one (i := 5) (by kernel_rfl) rfl fun K6 hK6 => ?_
      refine ol_alloc 9 z41 rfl fun b9 => ?_
      refine ol_nil (to_k0 (fun _ _ h => h) (hK6 _ _ ⟨.inr (by repeat' first | exact subH_nil | refine subH_same rfl ?_ | (refine subH_blk rfl (by repeat' first | exact sub_nil | refine sub_cons rfl ?_) ?_)), trivial⟩ ?_))
      clear hK6
      refine aq_one (i := 6) (by kernel_rfl) rfl fun K7 hK7 => ?_
      refine ol_store (id := 8) rfl rfl rfl rfl sz41 rfl rfl (by first | decide | exact Nat.zero_lt_succ _ | simp) ?_
      refine ol_nil (to_k0 (fun _ _ h => h) (hK7 _ _ ⟨.inr (by repeat' first | exact subH_nil | refine subH_same rfl ?_ | (refine subH_blk rfl (by repeat' first | exact sub_nil | refine sub_cons rfl ?_) ?_)), trivial⟩ ?_))
      clear hK7
      refine aq_one (i := 7) (by kernel_rfl) rfl fun K8 hK8 => ?_
      refine ol_store (id := 9) rfl rfl rfl rfl sz41 rfl rfl (by first | decide | exact Nat.zero_lt_succ _ | simp) ?_
      refine ol_nil (to_k0 (fun _ _ h => h) (hK8 _ _ ⟨.inr (by repeat' first | exact subH_nil | refine subH_same rfl ?_ | (refine subH_blk rfl (by repeat' first | exact sub_nil | refine sub_cons rfl ?_) ?_)), trivial⟩ ?_))
      clear hK8
      refine aq_done (by kernel_rfl) ?_
      refine (to_k0 (fun _ _ h => h) (hK2 ((b8, b9)) _ _ ?_ (sub_cons rfl (sub_cons rfl sub_nil)) (sub_cons rfl (sub_cons rfl (sub_cons rfl sub_nil))) (subH_blk rfl (by repeat' first | exact sub_nil | refine sub_cons rfl ?_) (subH_blk rfl (by repeat' first | exact sub_nil | refine sub_cons rfl ?_) subH_nil)) (subH_same rfl (subH_same rfl (subH_same rfl (subH_same rfl subH_nil))))))
      try dsimp only
      all_goals trivial
     ·refine ol_alloc 9 z41 rfl fun b9 => ?_
      refine ol_nil (to_k0 (fun _ _ h => h) (hK5 _ _ ⟨.inr (by repeat' first | exact subH_nil | refine subH_same rfl ?_ | (refine subH_blk rfl (by repeat' first | exact sub_nil | refine sub_cons rfl ?_) ?_)), trivial⟩ ?_))
      clear hK5
      refine aq_one (i := 3) (by kernel_rfl) rfl fun K6 hK6 => ?_
      refine ol_call rfl rfl cb55 rfl (fun w1 hb1 hs1 hB1 => Calls.mono (match_pointOf _ _) ?_)
      rintro e w2 ⟨rfl, hb2⟩
      refine After.below rfl hb1 hs1 hB1 hb2 ?_
      clear hb2 hB1 hs1 hb1 w2 w1
      refine ol_nil (to_k0 (fun _ _ h => h) (hK6 _ _ ⟨.inr (by repeat' first | exact subH_nil | refine subH_same rfl ?_ | (refine subH_blk rfl (by repeat' first | exact sub_nil | refine sub_cons rfl ?_) ?_)), trivial⟩ ?_))
      clear hK6
      refine aq_one (i := 6) (by kernel_rfl) rfl fun K7 hK7 => ?_
      refine ol_store (id := 8) rfl rfl rfl rfl sz41 rfl rfl (by first | decide | exact Nat.zero_lt_succ _ | simp) ?_
      refine ol_nil (to_k0 (fun _ _ h => h) (hK7 _ _ ⟨.inr (by repeat' first | exact subH_nil | refine subH_same rfl ?_ | (refine subH_blk rfl (by repeat' first | exact sub_nil | refine sub_cons rfl ?_) ?_)), trivial⟩ ?_))
      clear hK7
      refine aq_one (i := 7) (by kernel_rfl) rfl fun K8 hK8 => ?_
      refine ol_store (id := 9) rfl rfl rfl rfl sz41 rfl rfl (by first | decide | exact Nat.zero_lt_succ _ | simp) ?_
      refine ol_nil (to_k0 (fun _ _ h => h) (hK8 _ _ ⟨.inr (by repeat' first | exact subH_nil | refine subH_same rfl ?_ | (refine subH_blk rfl (by repeat' first | exact sub_nil | refine sub_cons rfl ?_) ?_)), trivial⟩ ?_))
      clear hK8
      refine aq_done (by kernel_rfl) ?_
      refine (to_k0 (fun _ _ h => h) (hK2 ((b8, b9)) _ _ ?_ (sub_cons rfl (sub_cons rfl sub_nil)) (sub_cons rfl (sub_cons rfl (sub_cons rfl sub_nil))) (subH_blk rfl (by repeat' first | exact sub_nil | refine sub_cons rfl ?_) (subH_blk rfl (by repeat' first | exact sub_nil | refine sub_cons rfl ?_) subH_nil)) (subH_same rfl (subH_same rfl (subH_same rfl (subH_same rfl subH_nil))))))
      try dsimp only
      all_goals trivial
    ·refine ol_alloc 9 z41 rfl fun b9 => ?_
     refine ol_nil (to_k0 (fun _ _ h => h) (hK4 _ _ ⟨.inr (by repeat' first | exact subH_nil | refine subH_same rfl ?_ | (refine subH_blk rfl (by repeat' first | exact sub_nil | refine sub_cons rfl ?_) ?_)), trivial⟩ ?_))
     clear hK4
     refine aq_two (i := 3) (j := 4) (by kernel_rfl) rfl rfl (fun K5 hK5 => ?_) (fun K5 hK5 => ?_)
     ·refine ol_call rfl rfl cb55 rfl (fun w1 hb1 hs1 hB1 => Calls.mono (match_pointOf _ _) ?_)
      rintro e w2 ⟨rfl, hb2⟩
      refine After.below rfl hb1 hs1 hB1 hb2 ?_
      clear hb2 hB1 hs1 hb1 w2 w1
      refine ol_nil (to_k0 (fun _ _ h => h) (hK5 _ _ ⟨.inr (by repeat' first | exact subH_nil | refine subH_same rfl ?_ | (refine subH_blk rfl (by repeat' first | exact sub_nil | refine sub_cons rfl ?_) ?_)), trivial⟩ ?_))
      clear hK5
      refine aq_one (i := 4) (by kernel_rfl) rfl fun K6 hK6 => ?_
      refine ol_alloc 8 z41 rfl fun b8 => ?_
      refine ol_nil (to_k0 (fun _ _ h => h) (hK6 _ _ ⟨.inr (by repeat' first | exact subH_nil | refine subH_same rfl ?_ | (refine subH_blk rfl (by repeat' first | exact sub_nil | refine sub_cons rfl ?_) ?_)), trivial⟩ ?_))
      clear hK6
      refine aq_one (i := 6) (by kernel_rfl) rfl fun K7 hK7 => ?_
      refine ol_store (id := 8) rfl rfl rfl rfl sz41 rfl rfl (by first | decide | exact Nat.zero_lt_succ _ | simp) ?_
      refine ol_nil (to_k0 (fun _ _ h => h) (hK7 _ _ ⟨.inr (by repeat' first | exact subH_nil | refine subH_same rfl ?_ | (refine subH_blk rfl (by repeat' first | exact sub_nil | refine sub_cons rfl ?_) ?_)), trivial⟩ ?_))
      clear hK7
      refine aq_one (i := 7) (by kernel_rfl) rfl fun K8 hK8 => ?_
      refine ol_store (id := 9) rfl rfl rfl rfl sz41 rfl rfl (by first | decide | exact Nat.zero_lt_succ _ | simp) ?_
      refine ol_nil (to_k0 (fun _ _ h => h) (hK8 _ _ ⟨.inr (by repeat' first | exact subH_nil | refine subH_same rfl ?_ | (refine subH_blk rfl (by repeat' first | exact sub_nil | refine sub_cons rfl ?_) ?_)), trivial⟩ ?_))
      clear hK8
      refine aq_done (by kernel_rfl) ?_
      refine (to_k0 (fun _ _ h => h) (hK2 ((b8, b9)) _ _ ?_ (sub_cons rfl (sub_cons rfl sub_nil)) (sub_cons rfl (sub_cons rfl (sub_cons rfl sub_nil))) (subH_blk rfl (by repeat' first | exact sub_nil | refine sub_cons rfl ?_) (subH_blk rfl (by repeat' first | exact sub_nil | refine sub_cons rfl ?_) subH_nil)) (subH_same rfl (subH_same rfl (subH_same rfl (subH_same rfl subH_nil))))))
      try dsimp only
      all_goals trivial
     ·refine ol_alloc 8 z41 rfl fun b8 => ?_
      refine ol_nil (to_k0 (fun _ _ h => h) (hK5 _ _ ⟨.inr (by repeat' first | exact subH_nil | refine subH_same rfl ?_ | (refine subH_blk rfl (by repeat' first | exact sub_nil | refine sub_cons rfl ?_) ?_)), trivial⟩ ?_))
      clear hK5
      refine aq_one (i := 3) (by kernel_rfl) rfl fun K6 hK6 => ?_
      refine ol_call rfl rfl cb55 rfl (fun w1 hb1 hs1 hB1 => Calls.mono (match_pointOf _ _) ?_)
      rintro e w2 ⟨rfl, hb2⟩
      refine After.below rfl hb1 hs1 hB1 hb2 ?_
      clear hb2 hB1 hs1 hb1 w2 w1
      refine ol_nil (to_k0 (fun _ _ h => h) (hK6 _ _ ⟨.inr (by repeat' first | exact subH_nil | refine subH_same rfl ?_ | (refine subH_blk rfl (by repeat' first | exact sub_nil | refine sub_cons rfl ?_) ?_)), trivial⟩ ?_))
      clear hK6
      refine aq_one (i := 6) (by kernel_rfl) rfl fun K7 hK7 => ?_
      refine ol_store (id := 8) rfl rfl rfl rfl sz41 rfl rfl (by first | decide | exact Nat.zero_lt_succ _ | simp) ?_
      refine ol_nil (to_k0 (fun _ _ h => h) (hK7 _ _ ⟨.inr (by repeat' first | exact subH_nil | refine subH_same rfl ?_ | (refine subH_blk rfl (by repeat' first | exact sub_nil | refine sub_cons rfl ?_) ?_)), trivial⟩ ?_))
      clear hK7
      refine aq_one (i := 7) (by kernel_rfl) rfl fun K8 hK8 => ?_
      refine ol_store (id := 9) rfl rfl rfl rfl sz41 rfl rfl (by first | decide | exact Nat.zero_lt_succ _ | simp) ?_
      refine ol_nil (to_k0 (fun _ _ h => h) (hK8 _ _ ⟨.inr (by repeat' first | exact subH_nil | refine subH_same rfl ?_ | (refine subH_blk rfl (by repeat' first | exact sub_nil | refine sub_cons rfl ?_) ?_)), trivial⟩ ?_))
      clear hK8
      refine aq_done (by kernel_rfl) ?_
      refine (to_k0 (fun _ _ h => h) (hK2 ((b8, b9)) _ _ ?_ (sub_cons rfl (sub_cons rfl sub_nil)) (sub_cons rfl (sub_cons rfl (sub_cons rfl sub_nil))) (subH_blk rfl (by repeat' first | exact sub_nil | refine sub_cons rfl ?_) (subH_blk rfl (by repeat' first | exact sub_nil | refine sub_cons rfl ?_) subH_nil)) (subH_same rfl (subH_same rfl (subH_same rfl (subH_same rfl subH_nil))))))
      try dsimp only
      all_goals trivial
   ·refine ol_alloc 8 z41 rfl fun b8 => ?_
    refine ol_nil (to_k0 (fun _ _ h => h) (hK3 _ _ ⟨.inr (by repeat' first | exact subH_nil | refine subH_same rfl ?_ | (refine subH_blk rfl (by repeat' first | exact sub_nil | refine sub_cons rfl ?_) ?_)), trivial⟩ ?_))
    clear hK3
    refine aq_two (i := 1) (j := 5) (by kernel_rfl) rfl rfl (fun K4 hK4 => ?_) (fun K4 hK4 => ?_)
    ·refine ol_call rfl rfl cb55 rfl (fun w1 hb1 hs1 hB1 => Calls.mono (match_pointOf _ _) ?_)
     rintro e w2 ⟨rfl, hb2⟩
     refine After.below rfl hb1 hs1 hB1 hb2 ?_
     clear hb2 hB1 hs1 hb1 w2 w1
     refine ol_nil (to_k0 (fun _ _ h => h) (hK4 _ _ ⟨.inr (by repeat' first | exact subH_nil | refine subH_same rfl ?_ | (refine subH_blk rfl (by repeat' first | exact sub_nil | refine sub_cons rfl ?_) ?_)), trivial⟩ ?_))
     clear hK4
     refine aq_two (i := 3) (j := 5) (by kernel_rfl) rfl rfl (fun K5 hK5 => ?_) (fun K5 hK5 => ?_)
     ·refine ol_call rfl rfl cb55 rfl (fun w1 hb1 hs1 hB1 => Calls.mono (match_pointOf _ _) ?_)
      rintro e w2 ⟨rfl, hb2⟩
      refine After.below rfl hb1 hs1 hB1 hb2 ?_
      clear hb2 hB1 hs1 hb1 w2 w1
      refine ol_nil (to_k0 (fun _ _ h => h) (hK5 _ _ ⟨.inr (by repeat' first | exact subH_nil | refine subH_same rfl ?_ | (refine subH_blk rfl (by repeat' first | exact sub_nil | refine sub_cons rfl ?_) ?_)), trivial⟩ ?_))
      clear hK5
      refine aq_one (i := 5) (by kernel_rfl) rfl fun K6 hK6 => ?_
      refine ol_alloc 9 z41 rfl fun b9 => ?_
      refine ol_nil (to_k0 (fun _ _ h => h) (hK6 _ _ ⟨.inr (by repeat' first | exact subH_nil | refine subH_same rfl ?_ | (refine subH_blk rfl (by repeat' first | exact sub_nil | refine sub_cons rfl ?_) ?_)), trivial⟩ ?_))
      clear hK6
      refine aq_one (i := 6) (by kernel_rfl) rfl fun K7 hK7 => ?_
      refine ol_store (id := 8) rfl rfl rfl rfl sz41 rfl rfl (by first | decide | exact Nat.zero_lt_succ _ | simp) ?_
      refine ol_nil (to_k0 (fun _ _ h => h) (hK7 _ _ ⟨.inr (by repeat' first | exact subH_nil | refine subH_same rfl ?_ | (refine subH_blk rfl (by repeat' first | exact sub_nil | refine sub_cons rfl ?_) ?_)), trivial⟩ ?_))
      clear hK7
      refine aq_one (i := 7) (by kernel_rfl) rfl fun K8 hK8 => ?_
      refine ol_store (id := 9) rfl rfl rfl rfl sz41 rfl rfl (by first | decide | exact Nat.zero_lt_succ _ | simp) ?_
      refine ol_nil (to_k0 (fun _ _ h => h) (hK8 _ _ ⟨.inr (by repeat' first | exact subH_nil | refine subH_same rfl ?_ | (refine subH_blk rfl (by repeat' first | exact sub_nil | refine sub_cons rfl ?_) ?_)), trivial⟩ ?_))
      clear hK8
      refine aq_done (by kernel_rfl) ?_
      refine (to_k0 (fun _ _ h => h) (hK2 ((b8, b9)) _ _ ?_ (sub_cons rfl (sub_cons rfl sub_nil)) (sub_cons rfl (sub_cons rfl (sub_cons rfl sub_nil))) (subH_blk rfl (by repeat' first | exact sub_nil | refine sub_cons rfl ?_) (subH_blk rfl (by repeat' first | exact sub_nil | refine sub_cons rfl ?_) subH_nil)) (subH_same rfl (subH_same rfl (subH_same rfl (subH_same rfl subH_nil))))))
      try dsimp only
      all_goals trivial
     ·refine ol_alloc 9 z41 rfl fun b9 => ?_
      refine ol_nil (to_k0 (fun _ _ h => h) (hK5 _ _ ⟨.inr (by repeat' first | exact subH_nil | refine subH_same rfl ?_ | (refine subH_blk rfl (by repeat' first | exact sub_nil | refine sub_cons rfl ?_) ?_)), trivial⟩ ?_))
      clear hK5
      refine aq_one (i := 3) (by kernel_rfl) rfl fun K6 hK6 => ?_
      refine ol_call rfl rfl cb55 rfl (fun w1 hb1 hs1 hB1 => Calls.mono (match_pointOf _ _) ?_)
      rintro e w2 ⟨rfl, hb2⟩
      refine After.below rfl hb1 hs1 hB1 hb2 ?_
      clear hb2 hB1 hs1 hb1 w2 w1
      refine ol_nil (to_k0 (fun _ _ h => h) (hK6 _ _ ⟨.inr (by repeat' first | exact subH_nil | refine subH_same rfl ?_ | (refine subH_blk rfl (by repeat' first | exact sub_nil | refine sub_cons rfl ?_) ?_)), trivial⟩ ?_))
      clear hK6
      refine aq_one (i := 6) (by kernel_rfl) rfl fun K7 hK7 => ?_
      refine ol_store (id := 8) rfl rfl rfl rfl sz41 rfl rfl (by first | decide | exact Nat.zero_lt_succ _ | simp) ?_
      refine ol_nil (to_k0 (fun _ _ h => h) (hK7 _ _ ⟨.inr (by repeat' first | exact subH_nil | refine subH_same rfl ?_ | (refine subH_blk rfl (by repeat' first | exact sub_nil | refine sub_cons rfl ?_) ?_)), trivial⟩ ?_))
      clear hK7
      refine aq_one (i := 7) (by kernel_rfl) rfl fun K8 hK8 => ?_
      refine ol_store (id := 9) rfl rfl rfl rfl sz41 rfl rfl (by first | decide | exact Nat.zero_lt_succ _ | simp) ?_
      refine ol_nil (to_k0 (fun _ _ h => h) (hK8 _ _ ⟨.inr (by repeat' first | exact subH_nil | refine subH_same rfl ?_ | (refine subH_blk rfl (by repeat' first | exact sub_nil | refine sub_cons rfl ?_) ?_)), trivial⟩ ?_))
      clear hK8
      refine aq_done (by kernel_rfl) ?_
      refine (to_k0 (fun _ _ h => h) (hK2 ((b8, b9)) _ _ ?_ (sub_cons rfl (sub_cons rfl sub_nil)) (sub_cons rfl (sub_cons rfl (sub_cons rfl sub_nil))) (subH_blk rfl (by repeat' first | exact sub_nil | refine sub_cons rfl ?_) (subH_blk rfl (by repeat' first | exact sub_nil | refine sub_cons rfl ?_) subH_nil)) (subH_same rfl (subH_same rfl (subH_same rfl (subH_same rfl subH_nil))))))
      try dsimp only
      all_goals trivial
    ·refine ol_alloc 9 z41 rfl fun b9 => ?_
     refine ol_nil (to_k0 (fun _ _ h => h) (hK4 _ _ ⟨.inr (by repeat' first | exact subH_nil | refine subH_same rfl ?_ | (refine subH_blk rfl (by repeat' first | exact sub_nil | refine sub_cons rfl ?_) ?_)), trivial⟩ ?_))
     clear hK4
     refine aq_one (i := 1) (by kernel_rfl) rfl fun K5 hK5 => ?_
     refine ol_call rfl rfl cb55 rfl (fun w1 hb1 hs1 hB1 => Calls.mono (match_pointOf _ _) ?_)
     rintro e w2 ⟨rfl, hb2⟩
     refine After.below rfl hb1 hs1 hB1 hb2 ?_
     clear hb2 hB1 hs1 hb1 w2 w1
     refine ol_nil (to_k0 (fun _ _ h => h) (hK5 _ _ ⟨.inr (by repeat' first | exact subH_nil | refine subH_same rfl ?_ | (refine subH_blk rfl (by repeat' first | exact sub_nil | refine sub_cons rfl ?_) ?_)), trivial⟩ ?_))
     clear hK5
     refine aq_one (i := 3) (by kernel_rfl) rfl fun K6 hK6 => ?_
     refine ol_call rfl rfl cb55 rfl (fun w1 hb1 hs1 hB1 => Calls.mono (match_pointOf _ _) ?_)
     rintro e w2 ⟨rfl, hb2⟩
     refine After.below rfl hb1 hs1 hB1 hb2 ?_
     clear hb2 hB1 hs1 hb1 w2 w1
     refine ol_nil (to_k0 (fun _ _ h => h) (hK6 _ _ ⟨.inr (by repeat' first | exact subH_nil | refine subH_same rfl ?_ | (refine subH_blk rfl (by repeat' first | exact sub_nil | refine sub_cons rfl ?_) ?_)), trivial⟩ ?_))
     clear hK6
     refine aq_one (i := 6) (by kernel_rfl) rfl fun K7 hK7 => ?_
     refine ol_store (id := 8) rfl rfl rfl rfl sz41 rfl rfl (by first | decide | exact Nat.zero_lt_succ _ | simp) ?_
     refine ol_nil (to_k0 (fun _ _ h => h) (hK7 _ _ ⟨.inr (by repeat' first | exact subH_nil | refine subH_same rfl ?_ | (refine subH_blk rfl (by repeat' first | exact sub_nil | refine sub_cons rfl ?_) ?_)), trivial⟩ ?_))
     clear hK7
     refine aq_one (i := 7) (by kernel_rfl) rfl fun K8 hK8 => ?_
     refine ol_store (id := 9) rfl rfl rfl rfl sz41 rfl rfl (by first | decide | exact Nat.zero_lt_succ _ | simp) ?_
     refine ol_nil (to_k0 (fun _ _ h => h) (hK8 _ _ ⟨.inr (by repeat' first | exact subH_nil | refine subH_same rfl ?_ | (refine subH_blk rfl (by repeat' first | exact sub_nil | refine sub_cons rfl ?_) ?_)), trivial⟩ ?_))
     clear hK8
     refine aq_done (by kernel_rfl) ?_
     refine (to_k0 (fun _ _ h => h) (hK2 ((b8, b9)) _ _ ?_ (sub_cons rfl (sub_cons rfl sub_nil)) (sub_cons rfl (sub_cons rfl (sub_cons rfl sub_nil))) (subH_blk rfl (by repeat' first | exact sub_nil | refine sub_cons rfl ?_) (subH_blk rfl (by repeat' first | exact sub_nil | refine sub_cons rfl ?_) subH_nil)) (subH_same rfl (subH_same rfl (subH_same rfl (subH_same rfl subH_nil))))))
     try dsimp only
     all_goals trivial
   ·refine ol_alloc 9 z41 rfl fun b9 => ?_
    refine ol_nil (to_k0 (fun _ _ h => h) (hK3 _ _ ⟨.inr (by repeat' first | exact subH_nil | refine subH_same rfl ?_ | (refine subH_blk rfl (by repeat' first | exact sub_nil | refine sub_cons rfl ?_) ?_)), trivial⟩ ?_))
    clear hK3
    refine aq_two (i := 1) (j := 4) (by kernel_rfl) rfl rfl (fun K4 hK4 => ?_) (fun K4 hK4 => ?_)
    ·refine ol_call rfl rfl cb55 rfl (fun w1 hb1 hs1 hB1 => Calls.mono (match_pointOf _ _) ?_)
     rintro e w2 ⟨rfl, hb2⟩
     refine After.below rfl hb1 hs1 hB1 hb2 ?_
     clear hb2 hB1 hs1 hb1 w2 w1
     refine ol_nil (to_k0 (fun _ _ h => h) (hK4 _ _ ⟨.inr (by repeat' first | exact subH_nil | refine subH_same rfl ?_ | (refine subH_blk rfl (by repeat' first | exact sub_nil | refine sub_cons rfl ?_) ?_)), trivial⟩ ?_))
     clear hK4
     refine aq_two (i := 3) (j := 4) (by kernel_rfl) rfl rfl (fun K5 hK5 => ?_) (fun K5 hK5 => ?_)
     ·refine ol_call rfl rfl cb55 rfl (fun w1 hb1 hs1 hB1 => Calls.mono (match_pointOf _ _) ?_)
      rintro e w2 ⟨rfl, hb2⟩
      refine After.below rfl hb1 hs1 hB1 hb2 ?_
      clear hb2 hB1 hs1 hb1 w2 w1
      refine ol_nil (to_k0 (fun _ _ h => h) (hK5 _ _ ⟨.inr (by repeat' first | exact subH_nil | refine subH_same rfl ?_ | (refine subH_blk rfl (by repeat' first | exact sub_nil | refine sub_cons rfl ?_) ?_)), trivial⟩ ?_))
      clear hK5
      refine aq_one (i := 4) (by kernel_rfl) rfl fun K6 hK6 => ?_
      refine ol_alloc 8 z41 rfl fun b8 => ?_
      refine ol_nil (to_k0 (fun _ _ h => h) (hK6 _ _ ⟨.inr (by repeat' first | exact subH_nil | refine subH_same rfl ?_ | (refine subH_blk rfl (by repeat' first | exact sub_nil | refine sub_cons rfl ?_) ?_)), trivial⟩ ?_))
      clear hK6
      refine aq_one (i := 6) (by kernel_rfl) rfl fun K7 hK7 => ?_
      refine ol_store (id := 8) rfl rfl rfl rfl sz41 rfl rfl (by first | decide | exact Nat.zero_lt_succ _ | simp) ?_
      refine ol_nil (to_k0 (fun _ _ h => h) (hK7 _ _ ⟨.inr (by repeat' first | exact subH_nil | refine subH_same rfl ?_ | (refine subH_blk rfl (by repeat' first | exact sub_nil | refine sub_cons rfl ?_) ?_)), trivial⟩ ?_))
      clear hK7
      refine aq_one (i := 7) (by kernel_rfl) rfl fun K8 hK8 => ?_
      refine ol_store (id := 9) rfl rfl rfl rfl sz41 rfl rfl (by first | decide | exact Nat.zero_lt_succ _ | simp) ?_
      refine ol_nil (to_k0 (fun _ _ h => h) (hK8 _ _ ⟨.inr (by repeat' first | exact subH_nil | refine subH_same rfl ?_ | (refine subH_blk rfl (by repeat' first | exact sub_nil | refine sub_cons rfl ?_) ?_)), trivial⟩ ?_))
      clear hK8
      refine aq_done (by kernel_rfl) ?_
      refine (to_k0 (fun _ _ h => h) (hK2 ((b8, b9)) _ _ ?_ (sub_cons rfl (sub_cons rfl sub_nil)) (sub_cons rfl (sub_cons rfl (sub_cons rfl sub_nil))) (subH_blk rfl (by repeat' first | exact sub_nil | refine sub_cons rfl ?_) (subH_blk rfl (by repeat' first | exact sub_nil | refine sub_cons rfl ?_) subH_nil)) (subH_same rfl (subH_same rfl (subH_same rfl (subH_same rfl subH_nil))))))
      try dsimp only
      all_goals trivial
     ·refine ol_alloc 8 z41 rfl fun b8 => ?_
      refine ol_nil (to_k0 (fun _ _ h => h) (hK5 _ _ ⟨.inr (by repeat' first | exact subH_nil | refine subH_same rfl ?_ | (refine subH_blk rfl (by repeat' first | exact sub_nil | refine sub_cons rfl ?_) ?_)), trivial⟩ ?_))
      clear hK5
      refine aq_one (i := 3) (by kernel_rfl) rfl fun K6 hK6 => ?_
      refine ol_call rfl rfl cb55 rfl (fun w1 hb1 hs1 hB1 => Calls.mono (match_pointOf _ _) ?_)
      rintro e w2 ⟨rfl, hb2⟩
      refine After.below rfl hb1 hs1 hB1 hb2 ?_
      clear hb2 hB1 hs1 hb1 w2 w1
      refine ol_nil (to_k0 (fun _ _ h => h) (hK6 _ _ ⟨.inr (by repeat' first | exact subH_nil | refine subH_same rfl ?_ | (refine subH_blk rfl (by repeat' first | exact sub_nil | refine sub_cons rfl ?_) ?_)), trivial⟩ ?_))
      clear hK6
      refine aq_one (i := 6) (by kernel_rfl) rfl fun K7 hK7 => ?_
      refine ol_store (id := 8) rfl rfl rfl rfl sz41 rfl rfl (by first | decide | exact Nat.zero_lt_succ _ | simp) ?_
      refine ol_nil (to_k0 (fun _ _ h => h) (hK7 _ _ ⟨.inr (by repeat' first | exact subH_nil | refine subH_same rfl ?_ | (refine subH_blk rfl (by repeat' first | exact sub_nil | refine sub_cons rfl ?_) ?_)), trivial⟩ ?_))
      clear hK7
      refine aq_one (i := 7) (by kernel_rfl) rfl fun K8 hK8 => ?_
      refine ol_store (id := 9) rfl rfl rfl rfl sz41 rfl rfl (by first | decide | exact Nat.zero_lt_succ _ | simp) ?_
      refine ol_nil (to_k0 (fun _ _ h => h) (hK8 _ _ ⟨.inr (by repeat' first | exact subH_nil | refine subH_same rfl ?_ | (refine subH_blk rfl (by repeat' first | exact sub_nil | refine sub_cons rfl ?_) ?_)), trivial⟩ ?_))
      clear hK8
      refine aq_done (by kernel_rfl) ?_
      refine (to_k0 (fun _ _ h => h) (hK2 ((b8, b9)) _ _ ?_ (sub_cons rfl (sub_cons rfl sub_nil)) (sub_cons rfl (sub_cons rfl (sub_cons rfl sub_nil))) (subH_blk rfl (by repeat' first | exact sub_nil | refine sub_cons rfl ?_) (subH_blk rfl (by repeat' first | exact sub_nil | refine sub_cons rfl ?_) subH_nil)) (subH_same rfl (subH_same rfl (subH_same rfl (subH_same rfl subH_nil))))))
      try dsimp only
      all_goals trivial
    ·refine ol_alloc 8 z41 rfl fun b8 => ?_
     refine ol_nil (to_k0 (fun _ _ h => h) (hK4 _ _ ⟨.inr (by repeat' first | exact subH_nil | refine subH_same rfl ?_ | (refine subH_blk rfl (by repeat' first | exact sub_nil | refine sub_cons rfl ?_) ?_)), trivial⟩ ?_))
     clear hK4
     refine aq_one (i := 1) (by kernel_rfl) rfl fun K5 hK5 => ?_
     refine ol_call rfl rfl cb55 rfl (fun w1 hb1 hs1 hB1 => Calls.mono (match_pointOf _ _) ?_)
     rintro e w2 ⟨rfl, hb2⟩
     refine After.below rfl hb1 hs1 hB1 hb2 ?_
     clear hb2 hB1 hs1 hb1 w2 w1
     refine ol_nil (to_k0 (fun _ _ h => h) (hK5 _ _ ⟨.inr (by repeat' first | exact subH_nil | refine subH_same rfl ?_ | (refine subH_blk rfl (by repeat' first | exact sub_nil | refine sub_cons rfl ?_) ?_)), trivial⟩ ?_))
     clear hK5
     refine aq_one (i := 3) (by kernel_rfl) rfl fun K6 hK6 => ?_
     refine ol_call rfl rfl cb55 rfl (fun w1 hb1 hs1 hB1 => Calls.mono (match_pointOf _ _) ?_)
     rintro e w2 ⟨rfl, hb2⟩
     refine After.below rfl hb1 hs1 hB1 hb2 ?_
     clear hb2 hB1 hs1 hb1 w2 w1
     refine ol_nil (to_k0 (fun _ _ h => h) (hK6 _ _ ⟨.inr (by repeat' first | exact subH_nil | refine subH_same rfl ?_ | (refine subH_blk rfl (by repeat' first | exact sub_nil | refine sub_cons rfl ?_) ?_)), trivial⟩ ?_))
     clear hK6
     refine aq_one (i := 6) (by kernel_rfl) rfl fun K7 hK7 => ?_
     refine ol_store (id := 8) rfl rfl rfl rfl sz41 rfl rfl (by first | decide | exact Nat.zero_lt_succ _ | simp) ?_
     refine ol_nil (to_k0 (fun _ _ h => h) (hK7 _ _ ⟨.inr (by repeat' first | exact subH_nil | refine subH_same rfl ?_ | (refine subH_blk rfl (by repeat' first | exact sub_nil | refine sub_cons rfl ?_) ?_)), trivial⟩ ?_))
     clear hK7
     refine aq_one (i := 7) (by kernel_rfl) rfl fun K8 hK8 => ?_
     refine ol_store (id := 9) rfl rfl rfl rfl sz41 rfl rfl (by first | decide | exact Nat.zero_lt_succ _ | simp) ?_
     refine ol_nil (to_k0 (fun _ _ h => h) (hK8 _ _ ⟨.inr (by repeat' first | exact subH_nil | refine subH_same rfl ?_ | (refine subH_blk rfl (by repeat' first | exact sub_nil | refine sub_cons rfl ?_) ?_)), trivial⟩ ?_))
     clear hK8
     refine aq_done (by kernel_rfl) ?_
     refine (to_k0 (fun _ _ h => h) (hK2 ((b8, b9)) _ _ ?_ (sub_cons rfl (sub_cons rfl sub_nil)) (sub_cons rfl (sub_cons rfl (sub_cons rfl sub_nil))) (subH_blk rfl (by repeat' first | exact sub_nil | refine sub_cons rfl ?_) (subH_blk rfl (by repeat' first | exact sub_nil | refine sub_cons rfl ?_) subH_nil)) (subH_same rfl (subH_same rfl (subH_same rfl (subH_same rfl subH_nil))))))
     try dsimp only
     all_goals trivial
  ·rintro ⟨b8, b9⟩ _
   dsimp only
   refine wp_seq' fun K9 hK9 => ?_
   refine wp_regq (by kernel_rfl) (by kernel_rfl) ?_
   refine ql_r (r_fa (o' := 0) rfl fl79_0 rfl) rfl ?_
   refine ql_r (r_lda (id := 3) (n := 2) rfl rfl rfl ag41) rfl ?_
   refine ql_r (r_fa (o' := 2) rfl fl79_1 rfl) rfl ?_
   refine ql_r (r_lda (id := 3) (n := 2) rfl rfl rfl ag41) rfl ?_
   refine ql_r (r_lda (id := 8) (n := 2) rfl rfl rfl ag41) rfl ?_
   refine ql_call rfl rfl cb128 rfl (fun w1 hb1 hs1 hB1 => match_sideOf _ _ _ _ _ _ _ (by assumption) (by assumption) (by assumption) (by assumption) (by assumption) (by assumption)) ?_
   refine ql_r (r_fa (o' := 0) rfl fl79_0 rfl) rfl ?_
   refine ql_r (r_lda (id := 3) (n := 2) rfl rfl rfl ag41) rfl ?_
   refine ql_r (r_fa (o' := 2) rfl fl79_1 rfl) rfl ?_
   refine ql_r (r_lda (id := 3) (n := 2) rfl rfl rfl ag41) rfl ?_
   refine ql_r (r_lda (id := 9) (n := 2) rfl rfl rfl ag41) rfl ?_
   refine ql_call rfl rfl cb128 rfl (fun w1 hb1 hs1 hB1 => match_sideOf _ _ _ _ _ _ _ (by assumption) (by assumption) (by assumption) (by assumption) (by assumption) (by assumption)) ?_
   refine ql_r (r_assign rfl) rfl ?_
   refine ql_r (r_assign rfl) rfl ?_
   refine ql_nil (to_k0 (fun _ _ h => h) (hK9 _ _ _ _ _ ?_))
   clear hK9
   refine wp_seq' fun K10 hK10 => ?_
   refine wp_seq' fun K11 hK11 => ?_
   refine wp_reg ?_
   refine ol_r (r_move rfl) rfl ?_
   refine ol_r (r_geq rfl rfl) rfl ?_
   refine ol_r (r_move rfl) rfl ?_
   refine ol_split (d := 32) rfl (fun hs32 => ?_) (fun hs32 => ?_)
   ·have phs32 := hs32; try simp only [decide_eq_true_eq, decide_eq_false_iff_not, Bool.not_eq_true', Bool.not_eq_false', Bool.not_true, Bool.not_false] at phs32
    refine ol_s rfl rfl hs32 rfl ?_
    refine ol_s rfl rfl hs32 rfl ?_
    refine ol_r (r_pickT rfl hs32 rfl) rfl ?_
    refine ol_nil (to_k0 (fun _ _ h => h) (hK11 _ _ _ _ _ ?_))
    clear hK11
    refine wp_condT rfl ?_
    refine wp_seq' fun K12 hK12 => ?_
    refine wp_reg ?_
    refine ol_r (r_build rfl (fun _ => bd152 _)) rfl ?_
    refine ol_store (id := 6) rfl rfl rfl rfl sz152 rfl rfl (by first | decide | exact Nat.zero_lt_succ _ | simp) ?_
    refine ol_r (r_assign rfl) rfl ?_
    refine ol_nil (to_k0 (fun _ _ h => h) (hK12 _ _ _ _ _ ?_))
    clear hK12
    refine hQ.ret (rvs2 (rv_c (id := 6) (n := 2) rfl rfl ag152 rfl) (rv_t rfl)) (fun _ _ h => h) fun w hb hs hB hkd => ?_
    first
      | (have hc : crB g p q = false := by
           unfold crB gSide
           simp only [Bool.and_eq_false_iff, Bool.not_eq_false', Bool.or_eq_true, Bool.and_eq_true, decide_eq_true_eq]
           omega
         exact ⟨by rw [partOf, hc]; rfl, hb⟩)
   ·have phs32 := hs32; try simp only [decide_eq_true_eq, decide_eq_false_iff_not, Bool.not_eq_true', Bool.not_eq_false', Bool.not_true, Bool.not_false] at phs32
    refine ol_g rfl rfl hs32 ?_
    refine ol_r (r_move rfl) rfl ?_
    refine ol_g rfl rfl hs32 ?_
    refine ol_r (r_lss rfl rfl) rfl ?_
    refine ol_r (r_pickF rfl hs32 rfl) rfl ?_
    refine ol_nil (to_k0 (fun _ _ h => h) (hK11 _ _ _ _ _ ?_))
    clear hK11
    refine wp_condD rfl (fun hc35 => ?_) (fun hc35 => ?_)
    ·refine wp_seq' fun K13 hK13 => ?_
     refine wp_reg ?_
     refine ol_r (r_build rfl (fun _ => bd152 _)) rfl ?_
     refine ol_store (id := 6) rfl rfl rfl rfl sz152 rfl rfl (by first | decide | exact Nat.zero_lt_succ _ | simp) ?_
     refine ol_r (r_assign rfl) rfl ?_
     refine ol_nil (to_k0 (fun _ _ h => h) (hK13 _ _ _ _ _ ?_))
     clear hK13
     refine hQ.ret (rvs2 (rv_c (id := 6) (n := 2) rfl rfl ag152 rfl) (rv_t rfl)) (fun _ _ h => h) fun w hb hs hB hkd => ?_
     first
       | (have hc : crB g p q = false := by
            unfold crB gSide
            simp only [Bool.and_eq_false_iff, Bool.not_eq_false', Bool.or_eq_true, Bool.and_eq_true, decide_eq_true_eq]
            omega
          exact ⟨by rw [partOf, hc]; rfl, hb⟩)
    ·refine wp_skip' (to_k0 (fun _ _ h => h) (hK10 _ _ _ _ _ ?_))
     clear hK10
     refine wp_seq' fun K14 hK14 => ?_
     refine wp_regq (by kernel_rfl) (by kernel_rfl) ?_
     refine ql_r (r_lda (id := 8) (n := 2) rfl rfl rfl ag41) rfl ?_
     refine ql_r (r_lda (id := 9) (n := 2) rfl rfl rfl ag41) rfl ?_
     refine ql_r (r_fa (o' := 0) rfl fl79_0 rfl) rfl ?_
     refine ql_r (r_lda (id := 3) (n := 2) rfl rfl rfl ag41) rfl ?_
     refine ql_call rfl rfl cb128 rfl (fun w1 hb1 hs1 hB1 => match_sideOf _ _ _ _ _ _ _ (by assumption) (by assumption) (by assumption) (by assumption) (by assumption) (by assumption)) ?_
     refine ql_r (r_lda (id := 8) (n := 2) rfl rfl rfl ag41) rfl ?_
     refine ql_r (r_lda (id := 9) (n := 2) rfl rfl rfl ag41) rfl ?_
     refine ql_r (r_fa (o' := 2) rfl fl79_1 rfl) rfl ?_
     refine ql_r (r_lda (id := 3) (n := 2) rfl rfl rfl ag41) rfl ?_
     refine ql_call rfl rfl cb128 rfl (fun w1 hb1 hs1 hB1 => match_sideOf _ _ _ _ _ _ _ (by assumption) (by assumption) (by assumption) (by assumption) (by assumption) (by assumption)) ?_
     refine ql_r (r_assign rfl) rfl ?_
     refine ql_r (r_assign rfl) rfl ?_
     refine ql_nil (to_k0 (fun _ _ h => h) (hK14 _ _ _ _ _ ?_))
     clear hK14
     refine wp_seq' fun K15 hK15 => ?_
     refine wp_seq' fun K16 hK16 => ?_
     refine wp_reg ?_
     refine ol_r (r_move rfl) rfl ?_
     refine ol_r (r_gtr rfl rfl) rfl ?_
     refine ol_r (r_move rfl) rfl ?_
     refine ol_split (d := 49) rfl (fun hs49 => ?_) (fun hs49 => ?_)
     ·have phs49 := hs49; try simp only [decide_eq_true_eq, decide_eq_false_iff_not, Bool.not_eq_true', Bool.not_eq_false', Bool.not_true, Bool.not_false] at phs49
      refine ol_g rfl rfl hs49 ?_
      refine ol_r (r_move rfl) rfl ?_
      refine ol_g rfl rfl hs49 ?_
      refine ol_r (r_gtr rfl rfl) rfl ?_
      refine ol_r (r_pickT rfl hs49 rfl) rfl ?_
      refine ol_r (r_move rfl) rfl ?_
      refine ol_split (d := 53) rfl (fun hs53 => ?_) (fun hs53 => ?_)
      ·have phs53 := hs53; try simp only [decide_eq_true_eq, decide_eq_false_iff_not, Bool.not_eq_true', Bool.not_eq_false', Bool.not_true, Bool.not_false] at phs53
       refine ol_s rfl rfl hs53 rfl ?_
       refine ol_s rfl rfl hs53 rfl ?_
       refine ol_s rfl rfl hs53 rfl ?_
       refine ol_u rfl rfl rfl ?_
       refine ol_u rfl rfl rfl ?_
       refine ol_s rfl rfl hs53 rfl ?_
       refine ol_r (r_pickT rfl hs53 rfl) rfl ?_
       refine ol_nil (to_k0 (fun _ _ h => h) (hK16 _ _ _ _ _ ?_))
       clear hK16
       refine wp_condT rfl ?_
       refine wp_seq' fun K17 hK17 => ?_
       refine wp_reg ?_
       refine ol_r (r_build rfl (fun _ => bd152 _)) rfl ?_
       refine ol_store (id := 6) rfl rfl rfl rfl sz152 rfl rfl (by first | decide | exact Nat.zero_lt_succ _ | simp) ?_
       refine ol_r (r_assign rfl) rfl ?_
       refine ol_nil (to_k0 (fun _ _ h => h) (hK17 _ _ _ _ _ ?_))
       clear hK17
       refine hQ.ret (rvs2 (rv_c (id := 6) (n := 2) rfl rfl ag152 rfl) (rv_t rfl)) (fun _ _ h => h) fun w hb hs hB hkd => ?_
       first
         | (have hc : crB g p q = false := by
              unfold crB gSide
              simp only [Bool.and_eq_false_iff, Bool.not_eq_false', Bool.or_eq_true, Bool.and_eq_true, decide_eq_true_eq]
              omega
            exact ⟨by rw [partOf, hc]; rfl, hb⟩)
      ·have phs53 := hs53; try simp only [decide_eq_true_eq, decide_eq_false_iff_not, Bool.not_eq_true', Bool.not_eq_false', Bool.not_true, Bool.not_false] at phs53
       refine ol_g rfl rfl hs53 ?_
       refine ol_r (r_move rfl) rfl ?_
       refine ol_g rfl rfl hs53 ?_
       refine ol_r (r_lss rfl rfl) rfl ?_
       refine ol_g rfl rfl hs53 ?_
       refine ol_r (r_move rfl) rfl ?_
       refine ol_split (d := 56) rfl (fun hs56 => ?_) (fun hs56 => ?_)
       ·have phs56 := hs56; try simp only [decide_eq_true_eq, decide_eq_false_iff_not, Bool.not_eq_true', Bool.not_eq_false', Bool.not_true, Bool.not_false] at phs56
        refine ol_g rfl rfl hs56 ?_
        refine ol_r (r_move rfl) rfl ?_
        refine ol_g rfl rfl hs56 ?_
        refine ol_r (r_lss rfl rfl) rfl ?_
        refine ol_g rfl rfl hs53 ?_
        refine ol_r (r_pickT rfl hs56 rfl) rfl ?_
        refine ol_r (r_pickF rfl hs53 rfl) rfl ?_
        refine ol_nil (to_k0 (fun _ _ h => h) (hK16 _ _ _ _ _ ?_))
        clear hK16
        refine wp_condD rfl (fun hc60 => ?_) (fun hc60 => ?_)
        ·refine wp_seq' fun K18 hK18 => ?_
         refine wp_reg ?_
         refine ol_r (r_build rfl (fun _ => bd152 _)) rfl ?_
         refine ol_store (id := 6) rfl rfl rfl rfl sz152 rfl rfl (by first | decide | exact Nat.zero_lt_succ _ | simp) ?_
         refine ol_r (r_assign rfl) rfl ?_
         refine ol_nil (to_k0 (fun _ _ h => h) (hK18 _ _ _ _ _ ?_))
         clear hK18
         refine hQ.ret (rvs2 (rv_c (id := 6) (n := 2) rfl rfl ag152 rfl) (rv_t rfl)) (fun _ _ h => h) fun w hb hs hB hkd => ?_
         first
           | (have hc : crB g p q = false := by
                unfold crB gSide
                simp only [Bool.and_eq_false_iff, Bool.not_eq_false', Bool.or_eq_true, Bool.and_eq_true, decide_eq_true_eq]
                omega
              exact ⟨by rw [partOf, hc]; rfl, hb⟩)
        ·refine wp_skip' (to_k0 (fun _ _ h => h) (hK15 _ _ _ _ _ ?_))
         clear hK15
         refine wp_seq' fun K19 hK19 => ?_
         refine wp_reg ?_
         refine ol_r (r_move rfl) rfl ?_
         refine ol_r (r_neg rfl (by omega)) rfl ?_
         refine ol_r (r_move rfl) rfl ?_
         refine ol_r (r_move rfl) rfl ?_
         refine ol_r (r_sub rfl rfl (by omega)) rfl ?_
         refine ol_r (r_build rfl (fun _ => bd152_0_1 _ _ _)) rfl ?_
         refine ol_store (id := 6) rfl rfl rfl rfl sz152 rfl rfl (by first | decide | exact Nat.zero_lt_succ _ | simp) ?_
         refine ol_r (r_assign rfl) rfl ?_
         refine ol_nil (to_k0 (fun _ _ h => h) (hK19 _ _ _ _ _ ?_))
         clear hK19
         refine hQ.ret (rvs2 (rv_c (id := 6) (n := 2) rfl rfl ag152 rfl) (rv_t rfl)) (fun _ _ h => h) fun w hb hs hB hkd => ?_
         first
           | (have hc : crB g p q = true := by
                unfold crB gSide
                simp only [Bool.and_eq_true, Bool.not_eq_true', Bool.or_eq_false_iff, Bool.and_eq_false_iff, decide_eq_false_iff_not]
                omega
              exact ⟨by rw [partOf, hc]; rfl, hb⟩)
       ·have phs56 := hs56; try simp only [decide_eq_true_eq, decide_eq_false_iff_not, Bool.not_eq_true', Bool.not_eq_false', Bool.not_true, Bool.not_false] at phs56
        refine ol_s rfl rfl hs56 rfl ?_
        refine ol_s rfl rfl hs56 rfl ?_
        refine ol_g rfl rfl hs53 ?_
        refine ol_r (r_pickF rfl hs56 rfl) rfl ?_
        refine ol_r (r_pickF rfl hs53 rfl) rfl ?_
        refine ol_nil (to_k0 (fun _ _ h => h) (hK16 _ _ _ _ _ ?_))
        clear hK16
        refine wp_condF rfl ?_
        refine wp_skip' (to_k0 (fun _ _ h => h) (hK15 _ _ _ _ _ ?_))
        clear hK15
        refine wp_seq' fun K20 hK20 => ?_
        refine wp_reg ?_
        refine ol_r (r_move rfl) rfl ?_
        refine ol_r (r_neg rfl (by omega)) rfl ?_
        refine ol_r (r_move rfl) rfl ?_
        refine ol_r (r_move rfl) rfl ?_
        refine ol_r (r_sub rfl rfl (by omega)) rfl ?_
        refine ol_r (r_build rfl (fun _ => bd152_0_1 _ _ _)) rfl ?_
        refine ol_store (id := 6) rfl rfl rfl rfl sz152 rfl rfl (by first | decide | exact Nat.zero_lt_succ _ | simp) ?_
        refine ol_r (r_assign rfl) rfl ?_
        refine ol_nil (to_k0 (fun _ _ h => h) (hK20 _ _ _ _ _ ?_))
        clear hK20
        refine hQ.ret (rvs2 (rv_c (id := 6) (n := 2) rfl rfl ag152 rfl) (rv_t rfl)) (fun _ _ h => h) fun w hb hs hB hkd => ?_
        first
          | (have hc : crB g p q = true := by
               unfold crB gSide
               simp only [Bool.and_eq_true, Bool.not_eq_true', Bool.or_eq_false_iff, Bool.and_eq_false_iff, decide_eq_false_iff_not]
               omega
             exact ⟨by rw [partOf, hc]; rfl, hb⟩)
     ·have phs49 := hs49; try simp only [decide_eq_true_eq, decide_eq_false_iff_not, Bool.not_eq_true', Bool.not_eq_false', Bool.not_true, Bool.not_false] at phs49
      refine ol_s rfl rfl hs49 rfl ?_
      refine ol_s rfl rfl hs49 rfl ?_
      refine ol_r (r_pickF rfl hs49 rfl) rfl ?_
      refine ol_r (r_move rfl) rfl ?_
      refine ol_g rfl rfl rfl ?_
      refine ol_r (r_move rfl) rfl ?_
      refine ol_g rfl rfl rfl ?_
      refine ol_r (r_lss rfl rfl) rfl ?_
      refine ol_g rfl rfl rfl ?_
      refine ol_r (r_move rfl) rfl ?_
      refine ol_split (d := 56) rfl (fun hs56 => ?_) (fun hs56 => ?_)
      ·have phs56 := hs56; try simp only [decide_eq_true_eq, decide_eq_false_iff_not, Bool.not_eq_true', Bool.not_eq_false', Bool.not_true, Bool.not_false] at phs56
       refine ol_g rfl rfl hs56 ?_
       refine ol_r (r_move rfl) rfl ?_
       refine ol_g rfl rfl hs56 ?_
       refine ol_r (r_lss rfl rfl) rfl ?_
       refine ol_g rfl rfl rfl ?_
       refine ol_r (r_pickT rfl hs56 rfl) rfl ?_
       refine ol_r (r_pickF rfl rfl rfl) rfl ?_
       refine ol_nil (to_k0 (fun _ _ h => h) (hK16 _ _ _ _ _ ?_))
       clear hK16
       refine wp_condD rfl (fun hc60 => ?_) (fun hc60 => ?_)
       ·refine wp_seq' fun K21 hK21 => ?_
        refine wp_reg ?_
        refine ol_r (r_build rfl (fun _ => bd152 _)) rfl ?_
        refine ol_store (id := 6) rfl rfl rfl rfl sz152 rfl rfl (by first | decide | exact Nat.zero_lt_succ _ | simp) ?_
        refine ol_r (r_assign rfl) rfl ?_
        refine ol_nil (to_k0 (fun _ _ h => h) (hK21 _ _ _ _ _ ?_))
        clear hK21
        refine hQ.ret (rvs2 (rv_c (id := 6) (n := 2) rfl rfl ag152 rfl) (rv_t rfl)) (fun _ _ h => h) fun w hb hs hB hkd => ?_
        first
          | (have hc : crB g p q = false := by
               unfold crB gSide
               simp only [Bool.and_eq_false_iff, Bool.not_eq_false', Bool.or_eq_true, Bool.and_eq_true, decide_eq_true_eq]
               omega
             exact ⟨by rw [partOf, hc]; rfl, hb⟩)
       ·refine wp_skip' (to_k0 (fun _ _ h => h) (hK15 _ _ _ _ _ ?_))
        clear hK15
        refine wp_seq' fun K22 hK22 => ?_
        refine wp_reg ?_
        refine ol_r (r_move rfl) rfl ?_
        refine ol_r (r_neg rfl (by omega)) rfl ?_
        refine ol_r (r_move rfl) rfl ?_
        refine ol_r (r_move rfl) rfl ?_
        refine ol_r (r_sub rfl rfl (by omega)) rfl ?_
        refine ol_r (r_build rfl (fun _ => bd152_0_1 _ _ _)) rfl ?_
        refine ol_store (id := 6) rfl rfl rfl rfl sz152 rfl rfl (by first | decide | exact Nat.zero_lt_succ _ | simp) ?_
        refine ol_r (r_assign rfl) rfl ?_
        refine ol_nil (to_k0 (fun _ _ h => h) (hK22 _ _ _ _ _ ?_))
        clear hK22
        refine hQ.ret (rvs2 (rv_c (id := 6) (n := 2) rfl rfl ag152 rfl) (rv_t rfl)) (fun _ _ h => h) fun w hb hs hB hkd => ?_
        first
          | (have hc : crB g p q = true := by
               unfold crB gSide
               simp only [Bool.and_eq_true, Bool.not_eq_true', Bool.or_eq_false_iff, Bool.and_eq_false_iff, decide_eq_false_iff_not]
               omega
             exact ⟨by rw [partOf, hc]; rfl, hb⟩)
      ·have phs56 := hs56; try simp only [decide_eq_true_eq, decide_eq_false_iff_not, Bool.not_eq_true', Bool.not_eq_false', Bool.not_true, Bool.not_false] at phs56
       refine ol_s rfl rfl hs56 rfl ?_
       refine ol_s rfl rfl hs56 rfl ?_
       refine ol_g rfl rfl rfl ?_
       refine ol_r (r_pickF rfl hs56 rfl) rfl ?_
       refine ol_r (r_pickF rfl rfl rfl) rfl ?_
       refine ol_nil (to_k0 (fun _ _ h => h) (hK16 _ _ _ _ _ ?_))
       clear hK16
       refine wp_condF rfl ?_
       refine wp_skip' (to_k0 (fun _ _ h => h) (hK15 _ _ _ _ _ ?_))
       clear hK15
       refine wp_seq' fun K23 hK23 => ?_
       refine wp_reg ?_
       refine ol_r (r_move rfl) rfl ?_
       refine ol_r (r_neg rfl (by omega)) rfl ?_
       refine ol_r (r_move rfl) rfl ?_
       refine ol_r (r_move rfl) rfl ?_
       refine ol_r (r_sub rfl rfl (by omega)) rfl ?_
       refine ol_r (r_build rfl (fun _ => bd152_0_1 _ _ _)) rfl ?_
       refine ol_store (id := 6) rfl rfl rfl rfl sz152 rfl rfl (by first | decide | exact Nat.zero_lt_succ _ | simp) ?_
       refine ol_r (r_assign rfl) rfl ?_
       refine ol_nil (to_k0 (fun _ _ h => h) (hK23 _ _ _ _ _ ?_))
       clear hK23
       refine hQ.ret (rvs2 (rv_c (id := 6) (n := 2) rfl rfl ag152 rfl) (rv_t rfl)) (fun _ _ h => h) fun w hb hs hB hkd => ?_
       first
         | (have hc : crB g p q = true := by
              unfold crB gSide
              simp only [Bool.and_eq_true, Bool.not_eq_true', Bool.or_eq_false_iff, Bool.and_eq_false_iff, decide_eq_false_iff_not]
              omega
            exact ⟨by rw [partOf, hc]; rfl, hb⟩)
theorem crossOf_eq {gs : List GateR} {p q : SmpR} {st i : Nat} {g : GateR} (h : gs[i]? = some g) : crossOf gs p q st (i : Int) = ⟨i, st, 1000 * p.at_ + (partOf g p q).num * (1000 * (q.at_ - p.at_)) / (partOf g p q).den⟩ := by unfold crossOf; rw [Int.toNat_natCast, h]
end Go.Proofs.Ytjflbnbofedlkaa

/-
  The example of harrierlaw5, and checks of both arguments.
-/

namespace Go.Proofs.Ytjflbnbofedlkaa
open Go Go.RowKit Hx
set_option linter.unusedVariables false
set_option linter.unusedSimpArgs false
set_option maxRecDepth 8000
def orL : List Int → Int
  | [] => 0
  | x :: r => if x ≠ 0 then x else orL r
theorem orL_next {xs : List Int} {k : Nat} (h : ∀ x ∈ xs.take k, x = 0) : orL xs = orL (xs.drop k) := by
  induction k generalizing xs with
  | zero => rfl
  | succ k ih =>
    cases xs with
    | nil => rfl
    | cons x r =>
      have hx := h x (by simp)
      rw [orL, if_neg (by simp [hx]), List.drop_succ_cons]
      exact ih fun y hy => h y (by simp [hy])
theorem cmp_OrE (a : Option Addr) (n c : Nat) (xs : List Int) (w : World) (hl : Rd encI w.heap.size w a n c xs) :
    Calls Try.prog 71 #[.slice a n c] w fun e w' => e = .returned (.int .i64 (orL xs)) ∧ Below w.heap.size w w' := by
  have hn := hl.len
  have hf := hl.fit
  refine enterQ (N := 18) (C := fun _ => True) (H := []) (B := w.heap.size) (args := [_]) Try.func71 rfl rfl rfl (Nat.le_refl _) (Sat.nil _ _) fun Q hQ => ?_
  refine wp_seq' fun K1 hK1 => ?_
  refine wp_reg ?_
  refine ol_r (r_assign rfl) rfl ?_
  refine ol_nil (to_k0 (fun _ _ h => h) (hK1 _ _ _ _ _ ?_))
  clear hK1
  refine wp_seq' fun K2 hK2 => ?_
  refine wp_reg ?_
  refine ol_r (r_assign rfl) rfl ?_
  refine ol_nil (to_k0 (fun _ _ h => h) (hK2 _ _ _ _ _ ?_))
  clear hK2
  refine wp_seq' fun K3 hK3 => ?_
  refine wp_seq' fun K4 hK4 => ?_
  refine wp_reg ?_
  refine ol_r (r_move rfl) rfl ?_
  refine ol_r (r_len rfl sl144) rfl ?_
  refine ol_r (r_move rfl) rfl ?_
  refine ol_nil (to_k0 (fun _ _ h => h) (hK4 _ _ _ _ _ ?_))
  clear hK4
  refine wp_block' ?_
  apply wp_loopM (σ := Nat) (fun s => s ≤ n ∧ ∀ x ∈ xs.take s, x = 0) (fun s => [(8, .int .i64 s)]) [(3, _), (6, _), (7, _)] (fun s => []) [] (fun s => n - s) (0)
  ·try dsimp only
   exact ⟨Nat.zero_le _, fun x hx => by simp at hx⟩
  ·exact (sub_cons rfl sub_nil)
  ·exact (sub_cons rfl (sub_cons rfl (sub_cons rfl sub_nil)))
  ·exact subH_nil
  ·exact subH_nil
  ·rintro k ⟨hk, hP⟩
   intro K5 hK5
   refine wp_seq' fun K6 hK6 => ?_
   refine wp_reg ?_
   refine ol_r (r_lss rfl rfl) rfl ?_
   refine ol_nil (to_k0 (fun _ _ h => h) (hK6 _ _ _ _ _ ?_))
   clear hK6
   refine wp_seq' fun K7 hK7 => ?_
   refine wp_condD rfl (fun hc9 => ?_) (fun hc9 => ?_)
   ·refine wp_skip' (to_k0 (fun _ _ h => h) (hK7 _ _ _ _ _ ?_))
    clear hK7
    refine wp_seq' fun K8 hK8 => ?_
    refine wp_block' ?_
    refine wp_seq' fun K9 hK9 => ?_
    refine wp_reg ?_
    refine ol_ixr hl rfl rfl sl144 (by omega) rfl fun x10 hx10 => ?_
    try simp only [Int.toNat_natCast] at hx10
    refine ol_r (r_ldw rfl (fun w1 hb1 hs1 hB1 => show Loads _ _ _ _ (.int .i64 x10) from Rd.loads hl ty26 hx10 hb1)) rfl ?_
    refine ol_r (r_assign rfl) rfl ?_
    refine ol_nil (to_k0 (fun _ _ h => h) (hK9 _ _ _ _ _ ?_))
    clear hK9
    refine wp_seq' fun K10 hK10 => ?_
    refine wp_reg ?_
    refine ol_r (r_move rfl) rfl ?_
    refine ol_r (r_move rfl) rfl ?_
    refine ol_r (r_neq rfl rfl) rfl ?_
    refine ol_nil (to_k0 (fun _ _ h => h) (hK10 _ _ _ _ _ ?_))
    clear hK10
    refine wp_condD rfl (fun hc14 => ?_) (fun hc14 => ?_)
    ·refine wp_seq' fun K11 hK11 => ?_
     refine wp_reg ?_
     refine ol_r (r_move rfl) rfl ?_
     refine ol_r (r_assign rfl) rfl ?_
     refine ol_nil (to_k0 (fun _ _ h => h) (hK11 _ _ _ _ _ ?_))
     clear hK11
     refine hQ.ret (rvs1 (rv_t rfl)) (fun _ _ h => h) fun w hb hs hB hkd => ?_
     rw [orL_next hP, drop_cons_get hx10, orL, if_pos hc14]
     exact ⟨rfl, hb⟩
    ·refine wp_skip' (to_k0 (fun _ _ h => h) (hK8 _ _ _ _ _ ?_))
     clear hK8
     refine wp_reg ?_
     refine ol_r (r_add rfl rfl (by omega)) rfl ?_
     refine ol_r (r_move rfl) rfl ?_
     refine ol_nil (to_k0 (fun _ _ h => h) (hK5 (k + 1) _ _ ?_ ?_ (sub_cons rfl sub_nil) (sub_cons rfl (sub_cons rfl (sub_cons rfl sub_nil))) (by exact subH_nil) subH_nil))
     ·try dsimp only
      refine ⟨by omega, fun x hx => ?_⟩
      rw [take_succ_get hx10] at hx
      rcases List.mem_append.1 hx with h | h
      · exact hP x h
      · simp at h; omega
     ·try dsimp only
      omega
   ·refine wp_exit' (to_k0 (fun _ _ h => h) (hK3 _ _ _ _ _ ?_))
    clear hK3
    refine wp_seq' fun K12 hK12 => ?_
    refine wp_reg ?_
    refine ol_r (r_move rfl) rfl ?_
    refine ol_r (r_assign rfl) rfl ?_
    refine ol_nil (to_k0 (fun _ _ h => h) (hK12 _ _ _ _ _ ?_))
    clear hK12
    refine hQ.ret (rvs1 (rv_t rfl)) (fun _ _ h => h) fun w hb hs hB hkd => ?_
    rw [orL_next hP, List.drop_eq_nil_of_le (by omega)]
    exact ⟨rfl, hb⟩
theorem match_checkRun (nm : ByteArray) (ga : Option Addr) (gn gc : Nat) (gs : List GateR) (A : ActV) (w : World) (hn : nm.size ≤ 9223372036854775807) (hS : Rd encGate w.heap.size w ga gn gc gs) (hA : A.Ok w.heap.size w) :
    Calls Try.prog 80 #[.agg #[.string nm, .slice ga gn gc], .agg #[.string A.name, .int .i64 A.sport, .int .i64 A.start, .slice A.sa A.sn A.sc, .slice A.la A.ln A.lc, .slice A.ta A.tn A.tc]] w fun e w' => e = .returned (.int .i64 (orL [chkSeg nm gs, chkA A.d])) ∧ Below w.heap.size w w' := by
  refine enterQ (N := 11) (C := fun _ => True) (H := []) (B := w.heap.size) (args := [_, _]) Try.func80 rfl rfl rfl (Nat.le_refl _) (Sat.nil _ _) fun Q hQ => ?_
  refine wp_seq' fun K1 hK1 => ?_
  refine wp_reg ?_
  refine ol_box 2 rfl rfl rfl fun b2 => ?_
  refine ol_box 3 rfl rfl rfl fun b3 => ?_
  refine ol_r (r_assign rfl) rfl ?_
  refine ol_nil (to_k0 (fun _ _ h => h) (hK1 _ _ _ _ _ ?_))
  clear hK1
  refine wp_seq' fun K2 hK2 => ?_
  refine wp_rega [(999, [(2, _), (3, _)])] (by kernel_rfl) ⟨.inr (subH_same rfl (subH_same rfl subH_nil)), trivial⟩ ?_
  refine aq_r 0 999 rfl (by kernel_rfl) (by kernel_rfl) (by kernel_rfl) (.head _) (by kernel_rfl) (by kernel_rfl) rfl (r_lda (id := 2) (n := 2) rfl rfl rfl ag82) ?_
  refine aq_r 2 999 rfl (by kernel_rfl) (by kernel_rfl) (by kernel_rfl) (.head _) (by kernel_rfl) (by kernel_rfl) rfl (r_lda (id := 3) (n := 6) rfl rfl rfl ag39) ?_
  refine aq_one (i := 1) (by kernel_rfl) rfl fun K3 hK3 => ?_
  refine ol_call rfl rfl cb101 rfl (fun w1 hb1 hs1 hB1 => Calls.mono (match_CheckSegment nm _ _ _ gs _ hn (hS.at hb1 hB1)) ?_)
  rintro e w2 ⟨rfl, hb2⟩
  refine After.below rfl hb1 hs1 hB1 hb2 ?_
  clear hb2 hB1 hs1 hb1 w2 w1
  refine ol_nil (to_k0 (fun _ _ h => h) (hK3 _ _ ⟨.inr (by repeat' first | exact subH_nil | refine subH_same rfl ?_ | (refine subH_blk rfl (by repeat' first | exact sub_nil | refine sub_cons rfl ?_) ?_)), trivial⟩ ?_))
  clear hK3
  refine aq_one (i := 3) (by kernel_rfl) rfl fun K4 hK4 => ?_
  refine ol_call rfl rfl cb54 rfl (fun w1 hb1 hs1 hB1 => Calls.mono (record_Check A _ (hA.at hb1 hB1)) ?_)
  rintro e w2 ⟨rfl, hb2⟩
  refine After.below rfl hb1 hs1 hB1 hb2 ?_
  clear hb2 hB1 hs1 hb1 w2 w1
  refine ol_nil (to_k0 (fun _ _ h => h) (hK4 _ _ ⟨.inr (by repeat' first | exact subH_nil | refine subH_same rfl ?_ | (refine subH_blk rfl (by repeat' first | exact sub_nil | refine sub_cons rfl ?_) ?_)), trivial⟩ ?_))
  clear hK4
  refine aq_one (i := 4) (by kernel_rfl) rfl fun K5 hK5 => ?_
  refine ol_bsN 9 rfl rw144 rfl rfl (fun _ => by kernel_rfl) rfl fun a9 => ?_
  refine ol_nil (to_k0 (fun _ _ h => h) (hK5 _ _ ⟨.inr (by repeat' first | exact subH_nil | refine subH_same rfl ?_ | (refine subH_blk rfl (by repeat' first | exact sub_nil | refine sub_cons rfl ?_) ?_)), trivial⟩ ?_))
  clear hK5
  refine aq_one (i := 5) (by kernel_rfl) rfl fun K6 hK6 => ?_
  refine ol_call rfl rfl cb71 rfl (fun w1 hb1 hs1 hB1 => Calls.mono (cmp_OrE _ _ _ [chkSeg nm gs, chkA A.d] _ (Sat.rd hs1 (E := encI) (xs := [chkSeg nm gs, chkA A.d]) (id := 9) rfl rfl)) ?_)
  rintro e w2 ⟨rfl, hb2⟩
  refine After.below rfl hb1 hs1 hB1 hb2 ?_
  clear hb2 hB1 hs1 hb1 w2 w1
  refine ol_nil (to_k0 (fun _ _ h => h) (hK6 _ _ ⟨.inr (by repeat' first | exact subH_nil | refine subH_same rfl ?_ | (refine subH_blk rfl (by repeat' first | exact sub_nil | refine sub_cons rfl ?_) ?_)), trivial⟩ ?_))
  clear hK6
  refine aq_r 6 999 rfl (by kernel_rfl) (by kernel_rfl) (by kernel_rfl) (.head _) (by kernel_rfl) (by kernel_rfl) rfl (r_assign rfl) ?_
  refine aq_done (by kernel_rfl) ?_
  refine (to_k0 (fun _ _ h => h) (hK2 _ _ _ _ _ ?_))
  clear hK2
  refine hQ.ret (rvs1 (rv_t rfl)) (fun _ _ h => h) fun w hb hs hB hkd => ?_
  exact ⟨rfl, hb⟩
theorem equal_cr_same (a b : Option Addr) (n c1 c2 : Nat) (xs : List CrossR) (w : World) (hx : Rd encCr w.heap.size w a n c1 xs) (hy : Rd encCr w.heap.size w b n c2 xs) :
    Calls Try.prog 49 #[.slice a n c1, .slice b n c2] w fun e w' => e = .returned (.bool true) ∧ Below w.heap.size w w' := by
  have hn := hx.len
  have hfit := hx.fit
  refine enterQ (N := 26) (C := fun _ => True) (H := []) (B := w.heap.size) (args := [_, _]) Try.func49 rfl rfl rfl (Nat.le_refl _) (Sat.nil _ _) fun Q hQ => ?_
  refine wp_seq' fun K1 hK1 => ?_
  refine wp_reg ?_
  refine ol_r (r_assign rfl) rfl ?_
  refine ol_nil (to_k0 (fun _ _ h => h) (hK1 _ _ _ _ _ ?_))
  clear hK1
  refine wp_seq' fun K2 hK2 => ?_
  refine wp_seq' fun K3 hK3 => ?_
  refine wp_reg ?_
  refine ol_r (r_move rfl) rfl ?_
  refine ol_r (r_len rfl sl83) rfl ?_
  refine ol_r (r_move rfl) rfl ?_
  refine ol_r (r_len rfl sl83) rfl ?_
  refine ol_r (r_neq rfl rfl) rfl ?_
  refine ol_nil (to_k0 (fun _ _ h => h) (hK3 _ _ _ _ _ ?_))
  clear hK3
  refine wp_condD rfl (fun hc10 => ?_) (fun hc10 => ?_)
  ·exfalso
   exact hc10 rfl
  ·refine wp_skip' (to_k0 (fun _ _ h => h) (hK2 _ _ _ _ _ ?_))
   clear hK2
   refine wp_seq' fun K4 hK4 => ?_
   refine wp_seq' fun K5 hK5 => ?_
   refine wp_reg ?_
   refine ol_r (r_move rfl) rfl ?_
   refine ol_r (r_len rfl sl83) rfl ?_
   refine ol_r (r_move rfl) rfl ?_
   refine ol_nil (to_k0 (fun _ _ h => h) (hK5 _ _ _ _ _ ?_))
   clear hK5
   refine wp_block' ?_
   apply wp_loopM (σ := Nat) (fun s => s ≤ n) (fun s => [(13, .int .i64 s)]) [(0, _), (1, _), (12, _)] (fun s => []) [] (fun s => n - s) (0)
   ·try dsimp only
    exact Nat.zero_le _
   ·exact (sub_cons rfl sub_nil)
   ·exact (sub_cons rfl (sub_cons rfl (sub_cons rfl sub_nil)))
   ·exact subH_nil
   ·exact subH_nil
   ·rintro k hk
    intro K6 hK6
    refine wp_seq' fun K7 hK7 => ?_
    refine wp_reg ?_
    refine ol_r (r_lss rfl rfl) rfl ?_
    refine ol_nil (to_k0 (fun _ _ h => h) (hK7 _ _ _ _ _ ?_))
    clear hK7
    refine wp_seq' fun K8 hK8 => ?_
    refine wp_condD rfl (fun hc14 => ?_) (fun hc14 => ?_)
    ·refine wp_skip' (to_k0 (fun _ _ h => h) (hK8 _ _ _ _ _ ?_))
     clear hK8
     refine wp_seq' fun K9 hK9 => ?_
     refine wp_block' ?_
     refine wp_seq' fun K10 hK10 => ?_
     refine wp_reg ?_
     refine ol_r (r_move rfl) rfl ?_
     refine ol_r (r_assign rfl) rfl ?_
     refine ol_nil (to_k0 (fun _ _ h => h) (hK10 _ _ _ _ _ ?_))
     clear hK10
     refine wp_seq' fun K11 hK11 => ?_
     refine wp_regq (by kernel_rfl) (by kernel_rfl) ?_
     refine ql_r (r_move rfl) rfl ?_
     refine ql_r (r_move rfl) rfl ?_
     refine ql_ixr hx rfl rfl sl83 (by omega) rfl fun x18 hx18 => ?_
     try simp only [Int.toNat_natCast] at hx18
     refine ql_r (r_ldw rfl (fun w1 hb1 hs1 hB1 => Rd.loads hx ty88 hx18 hb1)) rfl ?_
     refine ql_r (r_move rfl) rfl ?_
     refine ql_r (r_move rfl) rfl ?_
     refine ql_ixr hy rfl rfl sl83 (by omega) rfl fun x22 hx22 => ?_
     try simp only [Int.toNat_natCast] at hx22
     obtain rfl : x18 = x22 := Option.some.inj (hx18.symm.trans hx22)
     refine ql_r (r_ldw rfl (fun w1 hb1 hs1 hB1 => Rd.loads hy ty88 hx22 hb1)) rfl ?_
     refine ql_r (r_nes rfl rfl (by kernel_rfl) (fun w => run_eqs (by kernel_rfl) (by kernel_rfl) w)) rfl ?_
     refine ql_nil (to_k0 (fun _ _ h => h) (hK11 _ _ _ _ _ ?_))
     clear hK11
     refine wp_condNB rfl (fun hc24 => ?_) (fun hc24 => ?_)
     ·refine wp_seq' fun K12 hK12 => ?_
      refine wp_reg ?_
      refine ol_r (r_assign rfl) rfl ?_
      refine ol_nil (to_k0 (fun _ _ h => h) (hK12 _ _ _ _ _ ?_))
      clear hK12
      refine hQ.ret (rvs1 (rv_t rfl)) (fun _ _ h => h) fun w hb hs hB hkd => ?_
      first
        | (exfalso; simp [eqs, eqV] at hc24; done)
     ·refine wp_skip' (to_k0 (fun _ _ h => h) (hK9 _ _ _ _ _ ?_))
      clear hK9
      refine wp_reg ?_
      refine ol_r (r_add rfl rfl (by omega)) rfl ?_
      refine ol_r (r_move rfl) rfl ?_
      refine ol_nil (to_k0 (fun _ _ h => h) (hK6 (k + 1) _ _ ?_ ?_ (sub_cons rfl sub_nil) (sub_cons rfl (sub_cons rfl (sub_cons rfl sub_nil))) (by exact subH_nil) subH_nil))
      ·try dsimp only
       omega
      ·try dsimp only
       omega
    ·refine wp_exit' (to_k0 (fun _ _ h => h) (hK4 _ _ _ _ _ ?_))
     clear hK4
     refine wp_seq' fun K13 hK13 => ?_
     refine wp_reg ?_
     refine ol_r (r_assign rfl) rfl ?_
     refine ol_nil (to_k0 (fun _ _ h => h) (hK13 _ _ _ _ _ ?_))
     clear hK13
     refine hQ.ret (rvs1 (rv_t rfl)) (fun _ _ h => h) fun w hb hs hB hkd => ?_
     first
       | exact ⟨rfl, hb⟩
def toldG : List GateR := [⟨0, 10, 0, -10⟩, ⟨100, 10, 100, -10⟩]
def toldS : List SmpR := [⟨0, -5, 0, 0, -1, -1, -1⟩, ⟨10, 5, 0, 0, -1, -1, -1⟩]
def toldA (a : Option Addr) (c : Nat) : ActV := ⟨⟨#[97]⟩, 1, 0, a, 2, c, none, 0, 0, none, 0, 0, toldS, [], []⟩
def toldD : ActD := ⟨⟨#[97]⟩, 1, 0, toldS, [], []⟩
theorem toldA_ok {C : Nat} {w : World} {a : Option Addr} {c : Nat} (h : Rd encSmp C w a 2 c toldS) : (toldA a c).Ok C w :=
  { s := h, l := Rd.nil, t := Rd.nil, nm := by show 1 ≤ _; decide, lm := fun x hx => by simp [toldA] at hx, tm := fun x hx => by simp [toldA] at hx,
    lo := fun x hx => by simp [toldA, toldS] at hx; rcases hx with rfl | rfl <;> decide }
end Go.Proofs.Ytjflbnbofedlkaa

/-
  More rules: append of a make, and an owned row cut to its beginning.
-/


namespace Go.Proofs.Ytjflbnbofedlkaa.Hx
open Go Go.RowKit
set_option linter.unusedVariables false
set_option linter.unusedSimpArgs false
section
variable {P : Program} {N : Fr} {B : Nat} {w0 : World} {Q : Exit → Act → World → Prop} {al : AL} {H : HL} {ops rest : List Oper} {d : Nat} {ty : TypeId} {pos : String} {after : Array Edge}
/-- An owned row's first elements. -/
theorem Sat.cut {w : World} {id n cap h : Nat} {a : Option Addr} {xs : List Value} {e : TypeId} {size : Nat} (hs : Sat B w H) (hr : look H id = some (.row a n cap xs e size)) (hh : h ≤ n) : Sat B w ((id, .row a h cap (xs.take (h * size)) e size) :: H) := by
  refine hs.turn hr ?_ (fun _ _ _ => rfl) (fun b hb => .inl hb)
  obtain ⟨h1, h2⟩ := hs.ok _ _ hr
  refine ⟨by rw [List.length_take, h1]; exact Nat.min_eq_left (Nat.mul_le_mul_right _ hh), ?_⟩
  rcases h2 with ⟨hv, h2⟩ | ⟨g, cap', cur, hv, hb, hg, hnc, hcm, hcs, htake⟩
  · cases hv
    obtain rfl : h = 0 := by omega
    exact .inl ⟨rfl, rfl⟩
  · cases hv
    exact .inr ⟨g, cap, cur, rfl, hb, hg, by omega, hcm, hcs, by rw [← htake, List.take_take, Nat.min_eq_left (Nat.mul_le_mul_right _ hh)]⟩
theorem r_min3 {x y z : Operand} {tys : Array TypeId} {m n l : Int} (hx : ev al x = some (.int .i64 m)) (hy : ev al y = some (.int .i64 n)) (hz : ev al z = some (.int .i64 l)) :
    Runs P N B w0 (.call { callee := .builtin .min, args := #[x, y, z], argTypes := tys }) ty al H (.int .i64 (min (min m n) l)) := fun a w hst => by
  have h1 : (if n < m then n else m) = min m n := by rw [Int.min_def]; split <;> split <;> omega
  have h2 : (if l < min m n then l else min m n) = min (min m n) l := by rw [Int.min_def (min m n)]; split <;> split <;> omega
  simp [BigFrame.execOp_builtin, BigFrame.builtin_min, hst.regs.eval hx, hst.regs.eval hy, hst.regs.eval hz, Builtin.min_, Builtin.min2, h1, h2]
def Kle (H : HL) (ks : List (Nat × Nat)) (H' : HL) : Prop := ∀ j e, look H' j = some e → ∃ i f, (i, j) ∈ ks ∧ look H i = some f ∧ e.le f
theorem kle_nil {H : HL} : Kle H [] [] := fun j e h => by simp [look] at h
theorem kle_cons {H H' : HL} {i k : Nat} {e f : Ent} {ks : List (Nat × Nat)} (h : look H i = some f) (hl : e.le f) (hk : Kle H ks H') : Kle H ((i, k) :: ks) ((k, e) :: H') := fun j g hj => by
  by_cases hkj : k = j
  · subst hkj; rw [look_cons_eq] at hj; cases hj; exact ⟨i, f, by simp, h, hl⟩
  · rw [look_cons_ne _ _ hkj] at hj
    obtain ⟨i', f', h1, h2, h3⟩ := hk j g hj
    exact ⟨i', f', by simp [h1], h2, h3⟩
theorem Sat.kle {B : Nat} {H H' : HL} {w : World} (h : Sat B w H) (ks : List (Nat × Nat)) (hk : Kle H ks H') (hd : ∀ p ∈ ks, ∀ q ∈ ks, p.1 = q.1 → p.2 = q.2) : Sat B w H' :=
  ⟨fun j e he => by obtain ⟨i, f, _, h2, h3⟩ := hk j e he; exact h3.ok (h.ok i f h2), fun j j' e f hj he hf b hb => by
    obtain ⟨i, g, a1, a2, a3⟩ := hk j e he
    obtain ⟨i', g', b1, b2, b3⟩ := hk j' f hf
    exact fun hb' => h.apart i i' g g' (fun hii => hj (hd _ a1 _ b1 hii)) a2 b2 b (a3.own hb) (b3.own hb')⟩
theorem row_le {a : Option Addr} {n c s : Nat} {xs ys : List Value} {e : TypeId} (h : xs = ys) : (Ent.row a n c xs e s).le (.row a n c ys e s) := by subst h; exact Ent.le_refl _
end
end Go.Proofs.Ytjflbnbofedlkaa.Hx

/-
  Crossings of program and reference, whole; MatchCrossingsMatchSpec.
-/





namespace Go.Proofs.Ytjflbnbofedlkaa
open Go Go.RowKit Hx
set_option linter.unusedVariables false
set_option linter.unusedSimpArgs false
set_option maxRecDepth 8000
theorem cmp_OrI (a : Option Addr) (n c : Nat) (xs : List Int) (w : World) (hl : Rd encI w.heap.size w a n c xs) :
    Calls Try.prog 96 #[.slice a n c] w fun e w' => e = .returned (.int .i64 (orL xs)) ∧ Below w.heap.size w w' := by
  have hn := hl.len
  have hf := hl.fit
  refine enterQ (N := 18) (C := fun _ => True) (H := []) (B := w.heap.size) (args := [_]) Try.func96 rfl rfl rfl (Nat.le_refl _) (Sat.nil _ _) fun Q hQ => ?_
  refine wp_seq' fun K1 hK1 => ?_
  refine wp_reg ?_
  refine ol_r (r_assign rfl) rfl ?_
  refine ol_nil (to_k0 (fun _ _ h => h) (hK1 _ _ _ _ _ ?_))
  clear hK1
  refine wp_seq' fun K2 hK2 => ?_
  refine wp_reg ?_
  refine ol_r (r_assign rfl) rfl ?_
  refine ol_nil (to_k0 (fun _ _ h => h) (hK2 _ _ _ _ _ ?_))
  clear hK2
  refine wp_seq' fun K3 hK3 => ?_
  refine wp_seq' fun K4 hK4 => ?_
  refine wp_reg ?_
  refine ol_r (r_move rfl) rfl ?_
  refine ol_r (r_len rfl sl150) rfl ?_
  refine ol_r (r_move rfl) rfl ?_
  refine ol_nil (to_k0 (fun _ _ h => h) (hK4 _ _ _ _ _ ?_))
  clear hK4
  refine wp_block' ?_
  apply wp_loopM (σ := Nat) (fun s => s ≤ n ∧ ∀ x ∈ xs.take s, x = 0) (fun s => [(8, .int .i64 s)]) [(3, _), (6, _), (7, _)] (fun s => []) [] (fun s => n - s) (0)
  ·try dsimp only
   exact ⟨Nat.zero_le _, fun x hx => by simp at hx⟩
  ·exact (sub_cons rfl sub_nil)
  ·exact (sub_cons rfl (sub_cons rfl (sub_cons rfl sub_nil)))
  ·exact subH_nil
  ·exact subH_nil
  ·rintro k ⟨hk, hP⟩
   intro K5 hK5
   refine wp_seq' fun K6 hK6 => ?_
   refine wp_reg ?_
   refine ol_r (r_lss rfl rfl) rfl ?_
   refine ol_nil (to_k0 (fun _ _ h => h) (hK6 _ _ _ _ _ ?_))
   clear hK6
   refine wp_seq' fun K7 hK7 => ?_
   refine wp_condD rfl (fun hc9 => ?_) (fun hc9 => ?_)
   ·refine wp_skip' (to_k0 (fun _ _ h => h) (hK7 _ _ _ _ _ ?_))
    clear hK7
    refine wp_seq' fun K8 hK8 => ?_
    refine wp_block' ?_
    refine wp_seq' fun K9 hK9 => ?_
    refine wp_reg ?_
    refine ol_ixr hl rfl rfl sl150 (by omega) rfl fun x10 hx10 => ?_
    try simp only [Int.toNat_natCast] at hx10
    refine ol_r (r_ldw rfl (fun w1 hb1 hs1 hB1 => show Loads _ _ _ _ (.int .i64 x10) from Rd.loads hl ty3 hx10 hb1)) rfl ?_
    refine ol_r (r_assign rfl) rfl ?_
    refine ol_nil (to_k0 (fun _ _ h => h) (hK9 _ _ _ _ _ ?_))
    clear hK9
    refine wp_seq' fun K10 hK10 => ?_
    refine wp_reg ?_
    refine ol_r (r_move rfl) rfl ?_
    refine ol_r (r_move rfl) rfl ?_
    refine ol_r (r_neq rfl rfl) rfl ?_
    refine ol_nil (to_k0 (fun _ _ h => h) (hK10 _ _ _ _ _ ?_))
    clear hK10
    refine wp_condD rfl (fun hc14 => ?_) (fun hc14 => ?_)
    ·refine wp_seq' fun K11 hK11 => ?_
     refine wp_reg ?_
     refine ol_r (r_move rfl) rfl ?_
     refine ol_r (r_assign rfl) rfl ?_
     refine ol_nil (to_k0 (fun _ _ h => h) (hK11 _ _ _ _ _ ?_))
     clear hK11
     refine hQ.ret (rvs1 (rv_t rfl)) (fun _ _ h => h) fun w hb hs hB hkd => ?_
     rw [orL_next hP, drop_cons_get hx10, orL, if_pos hc14]
     exact ⟨rfl, hb⟩
    ·refine wp_skip' (to_k0 (fun _ _ h => h) (hK8 _ _ _ _ _ ?_))
     clear hK8
     refine wp_reg ?_
     refine ol_r (r_add rfl rfl (by omega)) rfl ?_
     refine ol_r (r_move rfl) rfl ?_
     refine ol_nil (to_k0 (fun _ _ h => h) (hK5 (k + 1) _ _ ?_ ?_ (sub_cons rfl sub_nil) (sub_cons rfl (sub_cons rfl (sub_cons rfl sub_nil))) (by exact subH_nil) subH_nil))
     ·try dsimp only
      refine ⟨by omega, fun x hx => ?_⟩
      rw [take_succ_get hx10] at hx
      rcases List.mem_append.1 hx with h | h
      · exact hP x h
      · simp at h; omega
     ·try dsimp only
      omega
   ·refine wp_exit' (to_k0 (fun _ _ h => h) (hK3 _ _ _ _ _ ?_))
    clear hK3
    refine wp_seq' fun K12 hK12 => ?_
    refine wp_reg ?_
    refine ol_r (r_move rfl) rfl ?_
    refine ol_r (r_assign rfl) rfl ?_
    refine ol_nil (to_k0 (fun _ _ h => h) (hK12 _ _ _ _ _ ?_))
    clear hK12
    refine hQ.ret (rvs1 (rv_t rfl)) (fun _ _ h => h) fun w hb hs hB hkd => ?_
    rw [orL_next hP, List.drop_eq_nil_of_le (by omega)]
    exact ⟨rfl, hb⟩
theorem or_two (p q : Int) : orL [cmpI (p / 18446744073709551616) (q / 18446744073709551616), cmpI (p % 18446744073709551616) (q % 18446744073709551616)] = cmpI p q := by
  unfold orL orL orL cmpI
  repeat' split
  all_goals first | rfl | (exfalso; omega) | omega
def PartOk (x : PartR) : Prop := (0 ≤ x.num ∧ x.num ≤ 200000000000000000) ∧ (1 ≤ x.den ∧ x.den ≤ 200000000000000000)
def cfP (x y : PartR) : Int := cmpI (x.num * y.den) (y.num * x.den)
theorem match_compare (x y : PartR) (w : World) (hx : PartOk x) (hy : PartOk y) :
    Calls Try.prog 105 #[encPart.val x, encPart.val y] w fun e w' => e = .returned (.int .i64 (cfP x y)) ∧ Below w.heap.size w w' := by
  obtain ⟨⟨x1, x2⟩, x3, x4⟩ := hx
  obtain ⟨⟨y1, y2⟩, y3, y4⟩ := hy
  have hw : ∀ m : Int, 0 ≤ m ∧ m ≤ 200000000000000000 → IntKind.u64.wrap m = m := fun m h => wrap_u64 (by omega)
  refine enterQ (N := 37) (C := fun _ => True) (H := []) (B := w.heap.size) (args := [_, _]) Try.func105 rfl rfl rfl (Nat.le_refl _) (Sat.nil _ _) fun Q hQ => ?_
  refine wp_seq' fun K1 hK1 => ?_
  refine wp_reg ?_
  refine ol_box 2 rfl rfl rfl fun b2 => ?_
  refine ol_box 3 rfl rfl rfl fun b3 => ?_
  refine ol_r (r_assign rfl) rfl ?_
  refine ol_nil (to_k0 (fun _ _ h => h) (hK1 _ _ _ _ _ ?_))
  clear hK1
  refine wp_seq' fun K2 hK2 => ?_
  refine wp_reg ?_
  refine ol_r (r_fa (o' := 0) rfl fl152_0 rfl) rfl ?_
  refine ol_r (r_ld (id := 2) rfl rfl rfl sc3) rfl ?_
  refine ol_r (r_conv (k2 := .u64) rfl (by kernel_rfl) (by kernel_rfl) (wrap_u64 (by omega))) rfl ?_
  refine ol_r (r_fa (o' := 1) rfl fl152_1 rfl) rfl ?_
  refine ol_r (r_ld (id := 3) rfl rfl rfl sc3) rfl ?_
  refine ol_r (r_conv (k2 := .u64) rfl (by kernel_rfl) (by kernel_rfl) (wrap_u64 (by omega))) rfl ?_
  refine ol_call rfl rfl cb130 rfl (fun w1 hb1 hs1 hB1 => Calls.mono (bits_MulI x.num y.den _ (by omega) (by omega)) ?_)
  rintro e w2 ⟨rfl, hb2⟩
  refine After.below rfl hb1 hs1 hB1 hb2 ?_
  clear hb2 hB1 hs1 hb1 w2 w1
  refine ol_r (r_move rfl) rfl ?_
  refine ol_r (r_extract rfl rfl) rfl ?_
  refine ol_r (r_extract rfl rfl) rfl ?_
  refine ol_r (r_assign rfl) rfl ?_
  refine ol_r (r_assign rfl) rfl ?_
  refine ol_nil (to_k0 (fun _ _ h => h) (hK2 _ _ _ _ _ ?_))
  clear hK2
  refine wp_seq' fun K3 hK3 => ?_
  refine wp_reg ?_
  refine ol_r (r_fa (o' := 0) rfl fl152_0 rfl) rfl ?_
  refine ol_r (r_ld (id := 3) rfl rfl rfl sc3) rfl ?_
  refine ol_r (r_conv (k2 := .u64) rfl (by kernel_rfl) (by kernel_rfl) (wrap_u64 (by omega))) rfl ?_
  refine ol_r (r_fa (o' := 1) rfl fl152_1 rfl) rfl ?_
  refine ol_r (r_ld (id := 2) rfl rfl rfl sc3) rfl ?_
  refine ol_r (r_conv (k2 := .u64) rfl (by kernel_rfl) (by kernel_rfl) (wrap_u64 (by omega))) rfl ?_
  refine ol_call rfl rfl cb130 rfl (fun w1 hb1 hs1 hB1 => Calls.mono (bits_MulI y.num x.den _ (by omega) (by omega)) ?_)
  rintro e w2 ⟨rfl, hb2⟩
  refine After.below rfl hb1 hs1 hB1 hb2 ?_
  clear hb2 hB1 hs1 hb1 w2 w1
  refine ol_r (r_move rfl) rfl ?_
  refine ol_r (r_extract rfl rfl) rfl ?_
  refine ol_r (r_extract rfl rfl) rfl ?_
  refine ol_r (r_assign rfl) rfl ?_
  refine ol_r (r_assign rfl) rfl ?_
  refine ol_nil (to_k0 (fun _ _ h => h) (hK3 _ _ _ _ _ ?_))
  clear hK3
  refine wp_seq' fun K4 hK4 => ?_
  refine wp_reg ?_
  refine ol_r (r_move rfl) rfl ?_
  refine ol_r (r_move rfl) rfl ?_
  refine ol_call rfl rfl cb131 rfl (fun w1 hb1 hs1 hB1 => Calls.mono (cmp_Compareu _ _ _) ?_)
  rintro e w2 ⟨rfl, hb2⟩
  refine After.below rfl hb1 hs1 hB1 hb2 ?_
  clear hb2 hB1 hs1 hb1 w2 w1
  refine ol_r (r_move rfl) rfl ?_
  refine ol_r (r_move rfl) rfl ?_
  refine ol_call rfl rfl cb131 rfl (fun w1 hb1 hs1 hB1 => Calls.mono (cmp_Compareu _ _ _) ?_)
  rintro e w2 ⟨rfl, hb2⟩
  refine After.below rfl hb1 hs1 hB1 hb2 ?_
  clear hb2 hB1 hs1 hb1 w2 w1
  refine ol_bsN 35 rfl rw150 rfl rfl (fun _ => by kernel_rfl) rfl fun a35 => ?_
  refine ol_call rfl rfl cb96 rfl (fun w1 hb1 hs1 hB1 => Calls.mono (cmp_OrI _ _ _ [cmpI (x.num * y.den / 18446744073709551616) (y.num * x.den / 18446744073709551616), cmpI (x.num * y.den % 18446744073709551616) (y.num * x.den % 18446744073709551616)] _ (Sat.rd hs1 (E := encI) (xs := [_, _]) (id := 35) rfl rfl)) ?_)
  rintro e w2 ⟨rfl, hb2⟩
  refine After.below rfl hb1 hs1 hB1 hb2 ?_
  clear hb2 hB1 hs1 hb1 w2 w1
  refine ol_r (r_assign rfl) rfl ?_
  refine ol_nil (to_k0 (fun _ _ h => h) (hK4 _ _ _ _ _ ?_))
  clear hK4
  refine hQ.ret (rvs1 (rv_t rfl)) (fun _ _ h => h) fun w hb hs hB hkd => ?_
  exact ⟨by rw [or_two]; rfl, hb⟩
theorem part_ok {g : GateR} {p q : SmpR} (hg : ∀ o, fG o g = 0) (hp : PlaceOk p) (hq : PlaceOk q) (h : crB g p q = true) : PartOk (partOf g p q) ∧ (partOf g p q).num ≤ (partOf g p q).den ∧ partOf g p q = ⟨-gSide g p, gSide g q - gSide g p⟩ := by
  obtain ⟨⟨g1, g2⟩, g3, g4⟩ := gate_bd hg
  obtain ⟨p1, p2⟩ := hp
  obtain ⟨q1, q2⟩ := hq
  have b1 := side6_bd g1 g2 g3 g4 p1 p2
  have b2 := side6_bd g1 g2 g3 g4 q1 q2
  have hpe : partOf g p q = ⟨-gSide g p, gSide g q - gSide g p⟩ := by rw [partOf, if_pos h]
  have hpo := crB_pos h
  unfold gSide at hpo hpe
  rw [hpe]
  unfold gSide
  exact ⟨⟨⟨by show 0 ≤ -_; omega, by show -_ ≤ _; omega⟩, by show 1 ≤ _ - _; omega, by show _ - _ ≤ (_ : Int); omega⟩, by show -_ ≤ _ - _; omega, rfl⟩
def cfG (gs : List GateR) (p q : SmpR) (i k : Int) : Int := if ltG gs p q i k = true then -1 else if ltG gs p q k i = true then 1 else 0
theorem cfG_lt (gs : List GateR) (p q : SmpR) : ltC (cfG gs p q) = ltG gs p q := by
  funext i k
  unfold ltC cfG
  cases h : ltG gs p q i k with
  | true => rfl
  | false => cases h2 : ltG gs p q k i <;> rfl
def GoodI (gs : List GateR) (p q : SmpR) (i : Int) : Prop := ∃ (j : Nat) (g : GateR), i = j ∧ gs[j]? = some g ∧ crB g p q = true
theorem cfG_cfP {gs : List GateR} {p q : SmpR} {i k : Nat} {g h : GateR} (hi : gs[i]? = some g) (hk : gs[k]? = some h) (h1 : PartOk (partOf g p q)) (h2 : PartOk (partOf h p q)) : cfG gs p q i k = cfP (partOf g p q) (partOf h p q) := by
  unfold cfG ltG cfP cmpI
  rw [gPart_at hi, gPart_at hk, posI_eq (n := (partOf g p q).den) (by have := h1.2.1; omega), posI_eq (n := (partOf h p q).den) (by have := h2.2.1; omega)]
  simp only [decide_eq_true_eq]
theorem crossings_cmp (gs : List GateR) (p q : SmpR) (B cb : Nat) (pa : Option Addr) (pn pc : Nat) (w : World) (x y : Int) (hg : ∀ g ∈ gs, ∀ o, fG o g = 0) (hp : PlaceOk p) (hq : PlaceOk q) (hl : gs.length ≤ 50) (hpn : pn = gs.length) (hx : GoodI gs p q x) (hy : GoodI gs p q y)
    (hs : Sat B w [(5001, .blk cb [(0, .slice pa pn pc)] 149), (5002, .row pa pn pc (encPart.enc (gs.map fun g => partOf g p q)) 152 2)]) (hB : B ≤ w.heap.size) :
    Calls Try.prog 104 #[.int .i64 x, .int .i64 y, .pointer (some ⟨cb, 0, none⟩)] w fun e w' => e = .returned (.int .i64 (cfG gs p q x y)) ∧ Below w.heap.size w w' := by
  obtain ⟨i, g, rfl, hi, hcg⟩ := hx
  obtain ⟨k, h, rfl, hk, hch⟩ := hy
  obtain ⟨ok1, _, _⟩ := part_ok (hg g (List.mem_of_getElem? hi)) hp hq hcg
  obtain ⟨ok2, _, _⟩ := part_ok (hg h (List.mem_of_getElem? hk)) hp hq hch
  have hil := (List.getElem?_eq_some_iff.1 hi).1
  have hkl := (List.getElem?_eq_some_iff.1 hk).1
  have hml : (gs.map fun g => partOf g p q).length = gs.length := List.length_map _
  have hb0 := hs.blk (id := 5001) rfl
  have hr0 := Sat.rd hs (E := encPart) (xs := gs.map fun g => partOf g p q) (id := 5002) rfl rfl
  rw [cfG_cfP hi hk ok1 ok2]
  refine enterQ (N := 15) (C := fun _ => True) (H := []) (B := w.heap.size) (args := [_, _, _]) Try.func104 rfl rfl rfl (Nat.le_refl _) (Sat.nil _ _) fun Q hQ => ?_
  refine wp_seq' fun K1 hK1 => ?_
  refine wp_reg ?_
  refine ol_r (r_assign rfl) rfl ?_
  refine ol_nil (to_k0 (fun _ _ h => h) (hK1 _ _ _ _ _ ?_))
  clear hK1
  refine wp_seq' fun K2 hK2 => ?_
  refine wp_regq (by kernel_rfl) (by kernel_rfl) ?_
  refine ql_r (r_ldw rfl (fun w1 hb1 hs1 hB1 => Blk.loads (o := 0) hb0 hb1 sc149 rfl)) rfl ?_
  refine ql_r (r_move rfl) rfl ?_
  refine ql_ixr hr0 rfl rfl sl149 (by omega) rfl fun x8 hx8 => ?_
  try simp only [Int.toNat_natCast] at hx8
  refine ql_r (r_ldw rfl (fun w1 hb1 hs1 hB1 => Rd.loads hr0 ty152 hx8 hb1)) rfl ?_
  refine ql_r (r_ldw rfl (fun w1 hb1 hs1 hB1 => Blk.loads (o := 0) hb0 hb1 sc149 rfl)) rfl ?_
  refine ql_r (r_move rfl) rfl ?_
  refine ql_ixr hr0 rfl rfl sl149 (by omega) rfl fun x12 hx12 => ?_
  try simp only [Int.toNat_natCast] at hx12
  refine ql_r (r_ldw rfl (fun w1 hb1 hs1 hB1 => Rd.loads hr0 ty152 hx12 hb1)) rfl ?_
  obtain rfl : x8 = partOf g p q := by rw [List.getElem?_map, hi] at hx8; exact (Option.some.inj hx8).symm
  obtain rfl : x12 = partOf h p q := by rw [List.getElem?_map, hk] at hx12; exact (Option.some.inj hx12).symm
  refine ql_call rfl rfl cb105 rfl (fun w1 hb1 hs1 hB1 => match_compare _ _ _ ok1 ok2) ?_
  refine ql_r (r_assign rfl) rfl ?_
  refine ql_nil (to_k0 (fun _ _ h => h) (hK2 _ _ _ _ _ ?_))
  clear hK2
  refine hQ.ret (rvs1 (rv_t rfl)) (fun _ _ h => h) fun w hb hs hB hkd => ?_
  exact ⟨rfl, hb⟩
theorem gOrd_of {gs : List GateR} {p q : SmpR} {k : Nat} {f g : Nat → Int} {n : Nat} (hf : gIdx gs p q k = tab n f) (h1 : SoR (ltG gs p q) g 0 n) (h2 : SaS f g 0 n) : tab n g = gOrd gs p q k :=
  gOrd_one (tab_pair h1) fun x => by rw [hf]; exact (h2.mem x).symm
theorem scale_part {x : PartR} {d : Int} (hx : PartOk x) (hnd : x.num ≤ x.den) (hd : 0 ≤ d ∧ d ≤ 1000000000) : x.num * (1000 * d) / x.den ≤ 1000 * d ∧ 0 ≤ x.num * (1000 * d) / x.den := by
  constructor
  · refine Int.ediv_le_of_le_mul (by have := hx.2.1; omega) ?_
    rw [Int.mul_comm]
    exact Int.mul_le_mul_of_nonneg_left hnd (by omega)
  · exact Int.ediv_nonneg (Int.mul_nonneg hx.1.1 (by omega)) (by have := hx.2.1; omega)
theorem cross_gen (nm : ByteArray) (ga : Option Addr) (gn gc : Nat) (gs : List GateR) (A : ActV) (w : World) (hS : Rd encGate w.heap.size w ga gn gc gs) (hA : A.Ok w.heap.size w) (hseg : SegOk nm gs) (hok : SmpOk A.start A.ss) :
    Calls Try.prog 81 #[.agg #[.string nm, .slice ga gn gc], .agg #[.string A.name, .int .i64 A.sport, .int .i64 A.start, .slice A.sa A.sn A.sc, .slice A.la A.ln A.lc, .slice A.ta A.tn A.tc]] w fun e w' => ∃ b m k, e = .returned (.slice b m k) ∧ Fresh encCr 88 w w' b m k (crossS gs (stepsL A.ss) (stepsL A.ss).length) := by
  have hgn := hS.len
  have hgl := hseg.len
  have hsn := hA.s.len
  have hsf := hA.s.fit
  have hlen := stepsL_len A.ss
  have hl20 := hok.len
  refine enterQ (N := 92) (C := fun _ => True) (H := []) (B := w.heap.size) (args := [_, _]) Try.func81 rfl rfl rfl (Nat.le_refl _) (Sat.nil _ _) fun Q hQ => ?_
  refine wp_seq' fun K1 hK1 => ?_
  refine wp_reg ?_
  refine ol_box 2 rfl rfl rfl fun b2 => ?_
  refine ol_box 3 rfl rfl rfl fun b3 => ?_
  refine ol_r (r_assign rfl) rfl ?_
  refine ol_nil (to_k0 (fun _ _ h => h) (hK1 _ _ _ _ _ ?_))
  clear hK1
  refine wp_seq' fun K2 hK2 => ?_
  refine wp_reg ?_
  refine ol_alloc 5 z83 rfl fun b5 => ?_
  refine ol_nilrow 3005 88 3 ?_
  refine ol_nil (to_k0 (fun _ _ h => h) (hK2 _ _ _ _ _ ?_))
  clear hK2
  refine wp_seq' fun K3 hK3 => ?_
  refine wp_reg ?_
  refine ol_alloc 6 z3 rfl fun b6 => ?_
  refine ol_store (id := 6) rfl rfl rfl rfl sz3 rfl rfl (by first | decide | exact Nat.zero_lt_succ _ | simp) ?_
  refine ol_nil (to_k0 (fun _ _ h => h) (hK3 _ _ _ _ _ ?_))
  clear hK3
  refine wp_seq' fun K4 hK4 => ?_
  refine wp_seq' fun K5 hK5 => ?_
  refine wp_reg ?_
  refine ol_r (r_lda (id := 3) (n := 6) rfl rfl rfl ag39) rfl ?_
  refine ol_call rfl rfl cb56 rfl (fun w1 hb1 hs1 hB1 => ?_)
  refine Calls.mono (track_Steps A _ (hA.at hb1 hB1)) ?_
  rintro e w2 ⟨b0, T0, rfl, hb2, hs2⟩
  refine After.more rfl hb1 hs1 hB1 hb2 hs2 ?_
  clear hs2 hb2 hB1 hs1 hb1 w2 w1
  refine ol_nil (to_k0 (fun _ _ h => h) (hK5 _ _ _ _ _ ?_))
  clear hK5
  refine wp_block' ?_
  refine wp_rf (σ := Option Addr × Nat × Nat) (τ := Unit) (encs := fun x : SmpR × SmpR => [.agg #[.int .i64 x.1.at_, .int .i64 x.1.x, .int .i64 x.1.y, .int .i64 x.1.z, .int .i64 x.1.pulse, .int .i64 x.1.power, .int .i64 x.1.steps], .agg #[.int .i64 x.2.at_, .int .i64 x.2.x, .int .i64 x.2.y, .int .i64 x.2.z, .int .i64 x.2.pulse, .int .i64 x.2.power, .int .i64 x.2.steps]]) (zs := stepsL A.ss) rfl cb87 (steps_iter A _ b0 _ hA.s) (by rfl) (by rfl) (by rfl) (fun _ => rfl) (fun k s => k ≤ (stepsL A.ss).length ∧ s.2.1 ≤ 50 * k) (fun k s => [(5, .blk b5 [(0, .slice s.1 s.2.1 s.2.2)] 83), (6, .blk b6 [(0, .int .i64 k)] 3), (3005, .row s.1 s.2.1 s.2.2 (encCr.enc (crossS gs (stepsL A.ss) k)) 88 3)]) [(2, _), (3, _), (1001, _)] (fun t => False) (fun t => []) ((none, 0, 0)) ?_ (by exact (subH_blk rfl (sub_cons rfl sub_nil) (subH_blk rfl (sub_cons rfl sub_nil) (subH_row rfl (by rfl) subH_nil)))) (subH_same rfl (subH_same rfl (subH_same rfl subH_nil))) ?_ ?_ ?_ ?_
  ·try dsimp only
   omega
  ·intro k s W hI hbW hsW hBW
   exact ⟨hbW, ⟨_, hsW.one 1001 100 rfl (Ent.le_refl _)⟩, hBW⟩
  ·rintro k x ⟨oa, on, oc⟩ B0 W hx hI hbW hBW hB0
   have hxx := stepsL_inv hx
   have hp := hok.place (List.mem_of_getElem? hxx.1)
   have hq := hok.place (List.mem_of_getElem? hxx.2)
   have hba := hok.bd _ (List.mem_of_getElem? hxx.1)
   have hbb := hok.bd _ (List.mem_of_getElem? hxx.2)
   have hri := hok.rise _ _ _ hxx.1 hxx.2
   have hkl := (List.getElem?_eq_some_iff.1 hx).1
   have hil := gIdx_len gs x.1 x.2 gs.length
   dsimp only at hI ⊢
   intro Ka6 hKa6
   simp only [alp]
   refine wp_seq' fun K7 hK7 => ?_
   refine wp_reg ?_
   refine ol_alloc 7 z51 rfl fun b7 => ?_
   refine ol_store (id := 7) rfl rfl rfl rfl sz51 rfl rfl (by first | decide | exact Nat.zero_lt_succ _ | simp) ?_
   refine ol_nil (to_k0 (fun _ _ h => h) (hK7 _ _ _ _ _ ?_))
   clear hK7
   refine wp_reg ?_
   refine ol_alloc 8 z51 rfl fun b8 => ?_
   refine ol_store (id := 8) rfl rfl rfl rfl sz51 rfl rfl (by first | decide | exact Nat.zero_lt_succ _ | simp) ?_
   refine ol_nil (to_k0 (fun _ _ h => h) (hKa6 _ _ fun Wb R hbw hBw hn hr => ?_))
   have hS := hS.below hbw
   refine wp_block' ?_
   refine wp_seq' fun K8 hK8 => ?_
   refine wp_reg ?_
   refine ol_alloc 9 z149 rfl fun b9 => ?_
   refine ol_nilrow 3009 152 2 ?_
   refine ol_nil (to_k0 (fun _ _ h => h) (hK8 _ _ _ _ _ ?_))
   clear hK8
   refine wp_seq' fun K9 hK9 => ?_
   refine wp_reg ?_
   refine ol_nilrow 10 3 1 ?_
   refine ol_r (r_assign rfl) rfl ?_
   refine ol_nil (to_k0 (fun _ _ h => h) (hK9 _ _ _ _ _ ?_))
   clear hK9
   refine wp_seq' fun K10 hK10 => ?_
   refine wp_seq' fun K11 hK11 => ?_
   refine wp_reg ?_
   refine ol_r (r_fa (o' := 1) rfl fl82_1 rfl) rfl ?_
   refine ol_r (r_ld (id := 2) rfl rfl rfl sc80) rfl ?_
   refine ol_r (r_len rfl sl80) rfl ?_
   refine ol_r (r_move rfl) rfl ?_
   refine ol_nil (to_k0 (fun _ _ h => h) (hK11 _ _ _ _ _ ?_))
   clear hK11
   refine wp_block' ?_
   apply wp_loopM (σ := Nat × Option Addr × Nat × Nat × Option Addr × Nat) (fun s => s.1 ≤ gn ∧ (gIdx gs x.1 x.2 s.1).length = s.2.2.1) (fun s => [(26, .int .i64 s.1), (10, .slice s.2.1 s.2.2.1 s.2.2.2.1)]) [(4, _), (5, _), (6, _), (7, _), (8, _), (9, _), (24, _), (25, _)] (fun s => [(10, .row s.2.1 s.2.2.1 s.2.2.2.1 (encI.enc (gIdx gs x.1 x.2 s.1)) 3 1), (9, .blk b9 [(0, .slice s.2.2.2.2.1 s.1 s.2.2.2.2.2)] 149), (3009, .row s.2.2.2.2.1 s.1 s.2.2.2.2.2 (encPart.enc ((gs.take s.1).map fun g => partOf g x.1 x.2)) 152 2)]) [(2, _), (3, _), (5, _), (6, _), (7, _), (8, _), (1001, _), (3005, _)] (fun s => gn - s.1) ((0, none, 0, 0, none, 0))
   ·try dsimp only
    exact ⟨Nat.zero_le _, rfl⟩
   ·exact (sub_cons rfl (sub_cons rfl sub_nil))
   ·exact (sub_cons rfl (sub_cons rfl (sub_cons rfl (sub_cons rfl (sub_cons rfl (sub_cons rfl (sub_cons rfl (sub_cons rfl sub_nil))))))))
   ·exact (subH_row rfl (by dsimp only; rfl) (subH_blk rfl (sub_cons rfl sub_nil) (subH_row rfl (by dsimp only; rfl) subH_nil)))
   ·exact (subH_same rfl (subH_same rfl (subH_same rfl (subH_same rfl (subH_same rfl (subH_same rfl (subH_same rfl (subH_same rfl subH_nil))))))))
   ·rintro ⟨j, qa, qn, qc, pa, pc⟩ ⟨hj, hqn⟩
    dsimp only at hj hqn ⊢
    have hql := gIdx_len gs x.1 x.2 j
    intro K12 hK12
    refine wp_seq' fun K13 hK13 => ?_
    refine wp_reg ?_
    refine ol_r (r_lss rfl rfl) rfl ?_
    refine ol_nil (to_k0 (fun _ _ h => h) (hK13 _ _ _ _ _ ?_))
    clear hK13
    refine wp_seq' fun K14 hK14 => ?_
    refine wp_condD rfl (fun hc27 => ?_) (fun hc27 => ?_)
    ·refine wp_skip' (to_k0 (fun _ _ h => h) (hK14 _ _ _ _ _ ?_))
     clear hK14
     refine wp_seq' fun K15 hK15 => ?_
     refine wp_block' ?_
     refine wp_seq' fun K16 hK16 => ?_
     refine wp_reg ?_
     refine ol_r (r_move rfl) rfl ?_
     refine ol_ixr hS rfl rfl sl80 (by omega) rfl fun x29 hx29 => ?_
     try simp only [Int.toNat_natCast] at hx29
     refine ol_r (r_ldw rfl (fun w1 hb1 hs1 hB1 => Rd.loads hS ty79 hx29 hb1)) rfl ?_
     refine ol_alloc 12 z79 rfl fun b12 => ?_
     refine ol_r (r_assign rfl) rfl ?_
     refine ol_store (id := 12) rfl rfl rfl rfl sz79 rfl rfl (by first | decide | exact Nat.zero_lt_succ _ | simp) ?_
     refine ol_nil (to_k0 (fun _ _ h => h) (hK16 _ _ _ _ _ ?_))
     clear hK16
     refine wp_seq' fun K17 hK17 => ?_
     refine wp_reg ?_
     refine ol_r (r_lda (id := 12) (n := 4) rfl rfl rfl ag79) rfl ?_
     refine ol_r (r_lda (id := 7) (n := 7) rfl rfl rfl ag51) rfl ?_
     refine ol_r (r_lda (id := 8) (n := 7) rfl rfl rfl ag51) rfl ?_
     refine ol_call rfl rfl cb102 rfl (fun w1 hb1 hs1 hB1 => Calls.mono (match_crosses x29 x.1 x.2 _ (hseg.g x29 (List.mem_of_getElem? hx29)) hp hq) ?_)
     rintro e w2 ⟨rfl, hb2⟩
     refine After.below rfl hb1 hs1 hB1 hb2 ?_
     clear hb2 hB1 hs1 hb1 w2 w1
     refine ol_r (r_move rfl) rfl ?_
     refine ol_r (r_extract rfl rfl) rfl ?_
     refine ol_r (r_extract rfl rfl) rfl ?_
     refine ol_alloc 13 z152 rfl fun b13 => ?_
     refine ol_store (id := 13) rfl rfl rfl rfl sz152 rfl rfl (by first | decide | exact Nat.zero_lt_succ _ | simp) ?_
     refine ol_r (r_assign rfl) rfl ?_
     refine ol_nil (to_k0 (fun _ _ h => h) (hK17 _ _ _ _ _ ?_))
     clear hK17
     refine wp_seq' fun K18 hK18 => ?_
     refine wp_seq' fun K19 hK19 => ?_
     refine wp_reg ?_
     refine ol_r (r_move rfl) rfl ?_
     refine ol_nil (to_k0 (fun _ _ h => h) (hK19 _ _ _ _ _ ?_))
     clear hK19
     refine wp_cond' rfl (fun hc38 => ?_) (fun hc38 => ?_)
     ·refine wp_reg ?_
      refine ol_r (r_move rfl) rfl ?_
      refine ol_r (r_move rfl) rfl ?_
      refine ol_bs1 41 rfl rfl rw150 rfl rfl rfl fun a41 => ?_
      refine ol_append1 (id := 10) (id2 := 41) rfl rfl rfl rfl rfl rw150 (by omega) rfl fun a42 c42 => ?_
      refine ol_r (r_assign rfl) rfl ?_
      refine ol_nil (to_k0 (fun _ _ h => h) (hK18 _ _ _ _ _ ?_))
      clear hK18
      refine wp_reg ?_
      refine ol_r (r_ld (id := 9) rfl rfl rfl sc149) rfl ?_
      refine ol_r (r_lda (id := 13) (n := 2) rfl rfl rfl ag152) rfl ?_
      refine ol_bs1 45 rfl rfl rw149 rfl rfl rfl fun a45 => ?_
      refine ol_append1 (id := 3009) (id2 := 45) rfl rfl rfl rfl rfl rw149 (by omega) rfl fun a46 c46 => ?_
      refine ol_store (id := 9) rfl rfl rfl rfl sz149 rfl rfl (by first | decide | exact Nat.zero_lt_succ _ | simp) ?_
      refine ol_nil (to_k0 (fun _ _ h => h) (hK15 _ _ _ _ _ ?_))
      clear hK15
      refine wp_reg ?_
      refine ol_r (r_add rfl rfl (by omega)) rfl ?_
      refine ol_r (r_move rfl) rfl ?_
      refine ol_nil (to_k0 (fun _ _ h => h) (hK12 ((j + 1, _, _, _, _, _)) _ _ ?_ ?_ (sub_cons rfl (sub_cons rfl sub_nil)) (sub_cons rfl (sub_cons rfl (sub_cons rfl (sub_cons rfl (sub_cons rfl (sub_cons rfl (sub_cons rfl (sub_cons rfl sub_nil)))))))) (by exact (subH_row rfl (by first | (dsimp only; first | (rw [gIdx_yes hx29 hc38, encI_snoc]) | (rw [gIdx_no hx29 hc38]) | (rw [take_succ_get hx29, List.map_append, Enc.enc_append]; rfl); done) | (first | (rw [gIdx_yes hx29 hc38, encI_snoc]) | (rw [gIdx_no hx29 hc38]) | (rw [take_succ_get hx29, List.map_append, Enc.enc_append]; rfl); done) | (dsimp only; done)) (subH_blk rfl (sub_cons rfl sub_nil) (subH_row rfl (by dsimp only; first | (rw [gIdx_yes hx29 hc38, encI_snoc]) | (rw [gIdx_no hx29 hc38]) | (rw [take_succ_get hx29, List.map_append, Enc.enc_append]; rfl)) subH_nil)))) (subH_same rfl (subH_same rfl (subH_same rfl (subH_same rfl (subH_same rfl (subH_same rfl (subH_same rfl (subH_same rfl subH_nil))))))))))
      ·try dsimp only
       first
         | exact ⟨by omega, by rw [gIdx_yes hx29 hc38, List.length_append, hqn]; rfl⟩
      ·try dsimp only
       omega
     ·refine wp_skip' (to_k0 (fun _ _ h => h) (hK18 _ _ _ _ _ ?_))
      clear hK18
      refine wp_reg ?_
      refine ol_r (r_ld (id := 9) rfl rfl rfl sc149) rfl ?_
      refine ol_r (r_lda (id := 13) (n := 2) rfl rfl rfl ag152) rfl ?_
      refine ol_bs1 45 rfl rfl rw149 rfl rfl rfl fun a45 => ?_
      refine ol_append1 (id := 3009) (id2 := 45) rfl rfl rfl rfl rfl rw149 (by omega) rfl fun a46 c46 => ?_
      refine ol_store (id := 9) rfl rfl rfl rfl sz149 rfl rfl (by first | decide | exact Nat.zero_lt_succ _ | simp) ?_
      refine ol_nil (to_k0 (fun _ _ h => h) (hK15 _ _ _ _ _ ?_))
      clear hK15
      refine wp_reg ?_
      refine ol_r (r_add rfl rfl (by omega)) rfl ?_
      refine ol_r (r_move rfl) rfl ?_
      refine ol_nil (to_k0 (fun _ _ h => h) (hK12 ((j + 1, _, _, _, _, _)) _ _ ?_ ?_ (sub_cons rfl (sub_cons rfl sub_nil)) (sub_cons rfl (sub_cons rfl (sub_cons rfl (sub_cons rfl (sub_cons rfl (sub_cons rfl (sub_cons rfl (sub_cons rfl sub_nil)))))))) (by exact (subH_row rfl (by first | (dsimp only; first | (rw [gIdx_yes hx29 hc38, encI_snoc]) | (rw [gIdx_no hx29 hc38]) | (rw [take_succ_get hx29, List.map_append, Enc.enc_append]; rfl); done) | (first | (rw [gIdx_yes hx29 hc38, encI_snoc]) | (rw [gIdx_no hx29 hc38]) | (rw [take_succ_get hx29, List.map_append, Enc.enc_append]; rfl); done) | (dsimp only; done)) (subH_blk rfl (sub_cons rfl sub_nil) (subH_row rfl (by dsimp only; first | (rw [gIdx_yes hx29 hc38, encI_snoc]) | (rw [gIdx_no hx29 hc38]) | (rw [take_succ_get hx29, List.map_append, Enc.enc_append]; rfl)) subH_nil)))) (subH_same rfl (subH_same rfl (subH_same rfl (subH_same rfl (subH_same rfl (subH_same rfl (subH_same rfl (subH_same rfl subH_nil))))))))))
      ·try dsimp only
       first
         | exact ⟨by omega, by rw [gIdx_no hx29 hc38]; exact hqn⟩
      ·try dsimp only
       omega
    ·refine wp_exit' (to_k0 (fun _ _ h => h) (hK10 _ _ _ _ _ ?_))
     clear hK10
     refine wp_seq' fun K20 hK20 => ?_
     refine wp_reg ?_
     obtain rfl : j = gs.length := by omega
     rw [List.take_of_length_le (Nat.le_refl _)]
     obtain ⟨f, hf, hfx⟩ := tab_of (gIdx gs x.1 x.2 gs.length)
     rw [hqn] at hf
     have hfu : ∀ i k, i < k → k < qn → f i < f k := fun i k h1 h2 => by
       have h3 := gIdx_up gs x.1 x.2 gs.length
       rw [List.pairwise_iff_getElem] at h3
       have h4 := h3 i k (by omega) (by omega) h1
       rw [hfx i _ (List.getElem?_eq_getElem (by omega)), hfx k _ (List.getElem?_eq_getElem (by omega))]
       exact h4
     have hfg : ∀ i, i < qn → GoodI gs x.1 x.2 (f i) := fun i h1 => by
       have h2 : f i ∈ gIdx gs x.1 x.2 gs.length := by rw [hf]; exact tab_mem.2 ⟨i, h1, rfl⟩
       obtain ⟨j, g, e1, e2, e3, e4⟩ := gIdx_mem h2
       exact ⟨j, g, e1, e3, e4⟩
     have hol : (gOrd gs x.1 x.2 gs.length).length = qn := by rw [gOrd_len]; exact hqn
     refine ol_r (r_move rfl) rfl ?_
     refine ol_r (r_func rfl) rfl ?_
     refine ol_call rfl rfl cb103 rfl (fun w1 hb1 hs1 hB1 => ?_)
     refine Calls.mono (sortStable_w (cfG gs x.1 x.2) (GoodI gs x.1 x.2) w.heap.size b9 _ _ _ _ _ _ _ _ _ _ _ _ _ (by rw [cfG_lt]; exact ltG_swo _ _ _) (by omega) (fun w3 i k gi gk hs3 hB3 => crossings_cmp gs x.1 x.2 _ _ _ _ _ w3 i k hseg.g hp hq (by omega) rfl gi gk hs3 hB3) f _ hB1 hfu hfg (hs1.kle [(10, 5000), (9, 5001), (3009, 5002), (2, 5003), (3, 5004), (5, 5005), (6, 5006), (7, 5007), (8, 5008), (3005, 5009), (1001, 5010)] (kle_cons rfl (row_le (by rw [← hf])) (kle_cons rfl (Ent.le_refl _) (kle_cons rfl (Ent.le_refl _) (kle_cons rfl (Ent.le_refl _) (kle_cons rfl (Ent.le_refl _) (kle_cons rfl (Ent.le_refl _) (kle_cons rfl (Ent.le_refl _) (kle_cons rfl (Ent.le_refl _) (kle_cons rfl (Ent.le_refl _) (kle_cons rfl (Ent.le_refl _) (kle_cons rfl (Ent.le_refl _) kle_nil))))))))))) (by decide))) ?_
     rintro e w2 ⟨g, rfl, hb2, hs2, hB2, hk2, hg1, hg2⟩
     have hg3 := gOrd_of hf (by rw [← cfG_lt]; exact hg1) hg2
     rw [hg3] at hs2
     refine After.sat rfl hb1 hb2 (hs2.kle [(5000, 10), (5001, 9), (5002, 3009), (5003, 2), (5004, 3), (5005, 5), (5006, 6), (5007, 7), (5008, 8), (5009, 3005), (5010, 1001)] (kle_cons rfl (Ent.le_refl _) (kle_cons rfl (Ent.le_refl _) (kle_cons rfl (Ent.le_refl _) (kle_cons rfl (Ent.le_refl _) (kle_cons rfl (Ent.le_refl _) (kle_cons rfl (Ent.le_refl _) (kle_cons rfl (Ent.le_refl _) (kle_cons rfl (Ent.le_refl _) (kle_cons rfl (Ent.le_refl _) (kle_cons rfl (Ent.le_refl _) (kle_cons rfl (Ent.le_refl _) kle_nil))))))))))) (by decide)) hB2 (hk2.imp fun _ h => h.elim) ?_
     clear hg3 hg1 hg2 hk2 hs2 hb2 hB2 hB1 hs1 hb1 w2 w1
     refine ol_nil (to_k0 (fun _ _ h => h) (hK20 _ _ _ _ _ ?_))
     clear hK20
     refine wp_seq' fun K21 hK21 => ?_
     refine wp_seq' fun K22 hK22 => ?_
     refine wp_reg ?_
     refine ol_r (r_move rfl) rfl ?_
     refine ol_r (r_len rfl sl150) rfl ?_
     refine ol_r (r_move rfl) rfl ?_
     refine ol_nil (to_k0 (fun _ _ h => h) (hK22 _ _ _ _ _ ?_))
     clear hK22
     refine wp_block' ?_
     apply wp_loopM (σ := Nat × Option Addr × Nat × Nat) (fun s => s.1 ≤ qn ∧ s.2.2.1 = on + s.1) (fun s => [(53, .int .i64 s.1)]) [(4, _), (5, _), (6, _), (7, _), (8, _), (9, _), (51, _), (52, _)] (fun s => [(5, .blk b5 [(0, .slice s.2.1 s.2.2.1 s.2.2.2)] 83), (3005, .row s.2.1 s.2.2.1 s.2.2.2 (encCr.enc (crossS gs (stepsL A.ss) k ++ ((gOrd gs x.1 x.2 gs.length).take s.1).map (crossOf gs x.1 x.2 k))) 88 3)]) [(2, _), (3, _), (6, _), (7, _), (8, _), (9, _), (10, _), (1001, _), (3009, _)] (fun s => qn - s.1) ((0, _, _, _))
     ·try dsimp only
      exact ⟨Nat.zero_le _, rfl⟩
     ·exact (sub_cons rfl sub_nil)
     ·exact (sub_cons rfl (sub_cons rfl (sub_cons rfl (sub_cons rfl (sub_cons rfl (sub_cons rfl (sub_cons rfl (sub_cons rfl sub_nil))))))))
     ·exact (subH_blk rfl (sub_cons rfl sub_nil) (subH_row rfl (by dsimp only; (rw [List.take_zero]; simp)) subH_nil))
     ·exact (subH_same rfl (subH_same rfl (subH_same rfl (subH_same rfl (subH_same rfl (subH_same rfl (subH_same rfl (subH_same rfl (subH_same rfl subH_nil)))))))))
     ·rintro ⟨t, oa2, on2, oc2⟩ ⟨ht, hon⟩
      dsimp only at ht hon ⊢
      intro K23 hK23
      refine wp_seq' fun K24 hK24 => ?_
      refine wp_reg ?_
      refine ol_r (r_lss rfl rfl) rfl ?_
      refine ol_nil (to_k0 (fun _ _ h => h) (hK24 _ _ _ _ _ ?_))
      clear hK24
      refine wp_seq' fun K25 hK25 => ?_
      refine wp_condD rfl (fun hc54 => ?_) (fun hc54 => ?_)
      ·refine wp_skip' (to_k0 (fun _ _ h => h) (hK25 _ _ _ _ _ ?_))
       clear hK25
       refine wp_seq' fun K26 hK26 => ?_
       refine wp_block' ?_
       refine wp_seq' fun K27 hK27 => ?_
       refine wp_reg ?_
       refine ol_ixo (id := 10) encI _ rfl rfl rfl rfl sl150 (by omega) rfl fun x55 hx55 => ?_
       try simp only [Int.toNat_natCast] at hx55
       try simp only [Int.toNat_natCast] at hx55
       refine ol_r (r_ldw rfl (fun w1 hb1 hs1 hB1 => show Loads _ _ _ _ (.int .i64 x55) from ld_own (id := 10) hs1 rfl rfl ty3 hx55)) rfl ?_
       refine ol_r (r_assign rfl) rfl ?_
       refine ol_nil (to_k0 (fun _ _ h => h) (hK27 _ _ _ _ _ ?_))
       clear hK27
       refine wp_seq' fun K28 hK28 => ?_
       refine wp_regq (by kernel_rfl) (by kernel_rfl) ?_
       obtain ⟨i, g, rfl, hi, hgi, hcr⟩ := gIdx_mem (gOrd_mem.1 (List.mem_of_getElem? hx55))
       obtain ⟨hpk, hnd, hpe⟩ := part_ok (hseg.g g (List.mem_of_getElem? hgi)) hp hq hcr
       have hsc := scale_part hpk hnd (d := x.2.at_ - x.1.at_) (by omega)
       obtain ⟨⟨hpk1, hpk2⟩, hpk3, hpk4⟩ := hpk
       have hml : (gs.map fun g => partOf g x.1 x.2).length = gs.length := List.length_map _
       refine ql_r (r_ld (id := 9) rfl rfl rfl sc149) rfl ?_
       refine ql_r (r_move rfl) rfl ?_
       refine ql_ixo (id := 3009) encPart _ rfl rfl rfl rfl sl149 (by omega) (by omega) rfl fun x60 hx60 => ?_
       try simp only [Int.toNat_natCast] at hx60
       try simp only [Int.toNat_natCast] at hx60
       have h60 : x60 = partOf g x.1 x.2 := by
         rw [List.getElem?_map, hgi] at hx60
         exact (Option.some.inj hx60).symm
       refine ql_r (r_faO (id := 3009) rfl rfl rfl hx60 fl152_0) rfl ?_
       refine ql_r (r_ldw rfl (fun w1 hb1 hs1 hB1 => ld_ownF (id := 3009) (o := 0) hs1 rfl rfl sc3 hx60 rfl)) rfl ?_
       refine ql_r (r_fa (o' := 0) rfl fl51_0 rfl) rfl ?_
       refine ql_r (r_ld (id := 8) rfl rfl rfl sc3) rfl ?_
       refine ql_r (r_fa (o' := 0) rfl fl51_0 rfl) rfl ?_
       refine ql_r (r_ld (id := 7) rfl rfl rfl sc3) rfl ?_
       refine ql_r (r_sub rfl rfl (by omega)) rfl ?_
       refine ql_r (r_mul rfl rfl (by omega)) rfl ?_
       refine ql_r (r_ld (id := 9) rfl rfl rfl sc149) rfl ?_
       refine ql_r (r_move rfl) rfl ?_
       refine ql_ixo (id := 3009) encPart _ rfl rfl rfl rfl sl149 (by omega) (by omega) rfl fun x71 hx71 => ?_
       try simp only [Int.toNat_natCast] at hx71
       try simp only [Int.toNat_natCast] at hx71
       refine ql_r (r_faO (id := 3009) rfl rfl rfl hx71 fl152_1) rfl ?_
       refine ql_r (r_ldw rfl (fun w1 hb1 hs1 hB1 => ld_ownF (id := 3009) (o := 1) hs1 rfl rfl sc3 hx71 rfl)) rfl ?_
       have h71 : x71 = partOf g x.1 x.2 := by
         rw [List.getElem?_map, hgi] at hx71
         exact (Option.some.inj hx71).symm
       rw [h60, h71]
       refine ql_call rfl rfl cb106 rfl (fun w1 hb1 hs1 hB1 => quant_ScaleD _ _ _ _ (by omega) (by omega) (by omega) (by omega)) ?_
       refine ql_r (r_move rfl) rfl ?_
       refine ql_r (r_extract rfl rfl) rfl ?_
       refine ql_r (r_extract rfl rfl) rfl ?_
       refine ql_r (r_assign rfl) rfl ?_
       refine ql_r (r_assign rfl) rfl ?_
       refine ql_nil (to_k0 (fun _ _ h => h) (hK28 _ _ _ _ _ ?_))
       clear hK28
       refine wp_reg ?_
       refine ol_r (r_ld (id := 5) rfl rfl rfl sc83) rfl ?_
       refine ol_r (r_move rfl) rfl ?_
       refine ol_r (r_ld (id := 6) rfl rfl rfl sc3) rfl ?_
       refine ol_r (r_fa (o' := 0) rfl fl51_0 rfl) rfl ?_
       refine ol_r (r_ld (id := 7) rfl rfl rfl sc3) rfl ?_
       refine ol_r (r_mul rfl rfl (by omega)) rfl ?_
       refine ol_r (r_move rfl) rfl ?_
       refine ol_r (r_add rfl rfl (by omega)) rfl ?_
       refine ol_r (r_build rfl (fun _ => bd88_0_1_2 _ _ _ _)) rfl ?_
       refine ol_bs1 86 rfl rfl rw83 rfl rfl rfl fun a86 => ?_
       refine ol_append1 (id := 3005) (id2 := 86) rfl rfl rfl rfl rfl rw83 (by omega) rfl fun a87 c87 => ?_
       refine ol_store (id := 5) rfl rfl rfl rfl sz83 rfl rfl (by first | decide | exact Nat.zero_lt_succ _ | simp) ?_
       refine ol_nil (to_k0 (fun _ _ h => h) (hK26 _ _ _ _ _ ?_))
       clear hK26
       refine wp_reg ?_
       refine ol_r (r_add rfl rfl (by omega)) rfl ?_
       refine ol_r (r_move rfl) rfl ?_
       refine ol_nil (to_k0 (fun _ _ h => h) (hK23 ((t + 1, _, _, _)) _ _ ?_ ?_ (sub_cons rfl sub_nil) (sub_cons rfl (sub_cons rfl (sub_cons rfl (sub_cons rfl (sub_cons rfl (sub_cons rfl (sub_cons rfl (sub_cons rfl sub_nil)))))))) (by exact (subH_blk rfl (sub_cons rfl sub_nil) (subH_row rfl (by dsimp only; (rw [take_succ_get hx55, List.map_append, ← List.append_assoc, Enc.enc_append, List.map_cons, List.map_nil, crossOf_eq hgi]; rfl)) subH_nil))) (subH_same rfl (subH_same rfl (subH_same rfl (subH_same rfl (subH_same rfl (subH_same rfl (subH_same rfl (subH_same rfl (subH_same rfl subH_nil)))))))))))
       ·try dsimp only
        exact ⟨by omega, by omega⟩
       ·try dsimp only
        omega
      ·refine wp_exit' (to_k0 (fun _ _ h => h) (hK21 _ _ _ _ _ ?_))
       clear hK21
       refine wp_reg ?_
       refine ol_r (r_ld (id := 6) rfl rfl rfl sc3) rfl ?_
       refine ol_r (r_add rfl rfl (by omega)) rfl ?_
       refine ol_store (id := 6) rfl rfl rfl rfl sz3 rfl rfl (by first | decide | exact Nat.zero_lt_succ _ | simp) ?_
       refine ol_nil (QP.of (hn ((_, _, _)) _ _ ?_ (by exact (subH_blk rfl (sub_cons rfl sub_nil) (subH_blk rfl (sub_cons rfl sub_nil) (subH_row rfl (by (rw [crossS_succ hx, List.take_of_length_le (show (gOrd gs x.1 x.2 gs.length).length ≤ t by rw [gOrd_len]; omega)])) subH_nil)))) (subH_same rfl (subH_same rfl (subH_same rfl subH_nil)))) (fun _ _ h => h))
       try dsimp only
       omega
  ·rintro s dd hI
   refine (to_k0 (fun _ _ h => h) (hK4 _ _ _ _ _ ?_))
   clear hK4
   refine wp_seq' fun K29 hK29 => ?_
   refine wp_reg ?_
   refine ol_r (r_ld (id := 5) rfl rfl rfl sc83) rfl ?_
   refine ol_r (r_assign rfl) rfl ?_
   refine ol_nil (to_k0 (fun _ _ h => h) (hK29 _ _ _ _ _ ?_))
   clear hK29
   refine hQ.ret (rvs1 (rv_t rfl)) (fun _ _ h => h) fun w hb hs hB hkd => ?_
   exact ⟨_, _, _, rfl, hb, hs.ok 3005 _ rfl⟩
  ·exact fun t dd hI => hI.elim
def crossR (nm : ByteArray) (gs : List GateR) (d : ActD) : List CrossR × Int := if orL [chkSeg nm gs, chkA d] ≠ 0 then ([], orL [chkSeg nm gs, chkA d]) else (crossS gs (stepsL d.ss) (stepsL d.ss).length, 0)
theorem or_both {nm : ByteArray} {gs : List GateR} {A : ActV} (h : ¬orL [chkSeg nm gs, chkA A.d] ≠ 0) : SegOk nm gs ∧ SmpOk A.start A.ss := by
  have h0 := Decidable.not_not.1 h
  unfold orL orL orL at h0
  by_cases h1 : chkSeg nm gs ≠ 0
  · rw [if_pos h1] at h0; exact absurd h0 h1
  · rw [if_neg h1] at h0
    refine ⟨segOk (Decidable.not_not.1 h1), ?_⟩
    by_cases h2 : chkA A.d ≠ 0
    · rw [if_pos h2] at h0; exact absurd h0 h2
    · exact (goodA (Decidable.not_not.1 h2)).smp
theorem match_Crossings (nm : ByteArray) (ga : Option Addr) (gn gc : Nat) (gs : List GateR) (A : ActV) (w : World) (hn : nm.size ≤ 9223372036854775807) (hS : Rd encGate w.heap.size w ga gn gc gs) (hA : A.Ok w.heap.size w) :
    Calls Try.prog 48 #[.agg #[.string nm, .slice ga gn gc], .agg #[.string A.name, .int .i64 A.sport, .int .i64 A.start, .slice A.sa A.sn A.sc, .slice A.la A.ln A.lc, .slice A.ta A.tn A.tc]] w fun e w' => ∃ b m k, e = .returned (.tuple #[.slice b m k, .int .i64 (crossR nm gs A.d).2]) ∧ Fresh encCr 88 w w' b m k (crossR nm gs A.d).1 := by
  refine enterQ (N := 16) (C := fun _ => True) (H := []) (B := w.heap.size) (args := [_, _]) Try.func48 rfl rfl rfl (Nat.le_refl _) (Sat.nil _ _) fun Q hQ => ?_
  refine wp_seq' fun K1 hK1 => ?_
  refine wp_reg ?_
  refine ol_box 2 rfl rfl rfl fun b2 => ?_
  refine ol_box 3 rfl rfl rfl fun b3 => ?_
  refine ol_r (r_assign rfl) rfl ?_
  refine ol_r (r_assign rfl) rfl ?_
  refine ol_nil (to_k0 (fun _ _ h => h) (hK1 _ _ _ _ _ ?_))
  clear hK1
  refine wp_seq' fun K2 hK2 => ?_
  refine wp_seq' fun K3 hK3 => ?_
  refine wp_reg ?_
  refine ol_r (r_lda (id := 2) (n := 2) rfl rfl rfl ag82) rfl ?_
  refine ol_r (r_lda (id := 3) (n := 6) rfl rfl rfl ag39) rfl ?_
  refine ol_call rfl rfl cb80 rfl (fun w1 hb1 hs1 hB1 => Calls.mono (match_checkRun nm _ _ _ gs A _ hn (hS.at hb1 hB1) (hA.at hb1 hB1)) ?_)
  rintro e w2 ⟨rfl, hb2⟩
  refine After.below rfl hb1 hs1 hB1 hb2 ?_
  clear hb2 hB1 hs1 hb1 w2 w1
  refine ol_r (r_assign rfl) rfl ?_
  refine ol_nil (to_k0 (fun _ _ h => h) (hK3 _ _ _ _ _ ?_))
  clear hK3
  refine wp_seq' fun K4 hK4 => ?_
  refine wp_reg ?_
  refine ol_r (r_move rfl) rfl ?_
  refine ol_r (r_neq rfl rfl) rfl ?_
  refine ol_nil (to_k0 (fun _ _ h => h) (hK4 _ _ _ _ _ ?_))
  clear hK4
  refine wp_condD rfl (fun hc11 => ?_) (fun hc11 => ?_)
  ·refine wp_seq' fun K5 hK5 => ?_
   refine wp_reg ?_
   refine ol_r (r_move rfl) rfl ?_
   refine ol_r (r_assign rfl) rfl ?_
   refine ol_r (r_assign rfl) rfl ?_
   refine ol_nil (to_k0 (fun _ _ h => h) (hK5 _ _ _ _ _ ?_))
   clear hK5
   refine hQ.ret (rvs2 (rv_t rfl) (rv_t rfl)) (fun _ _ h => h) fun w hb hs hB hkd => ?_
   exact ⟨none, 0, 0, by rw [crossR, if_pos hc11], by rw [crossR, if_pos hc11]; exact Fresh.nil hb⟩
  ·refine wp_skip' (to_k0 (fun _ _ h => h) (hK2 _ _ _ _ _ ?_))
   clear hK2
   refine wp_seq' fun K6 hK6 => ?_
   refine wp_reg ?_
   refine ol_r (r_lda (id := 2) (n := 2) rfl rfl rfl ag82) rfl ?_
   refine ol_r (r_lda (id := 3) (n := 6) rfl rfl rfl ag39) rfl ?_
   refine ol_call rfl rfl cb81 rfl (fun w1 hb1 hs1 hB1 => Calls.mono (cross_gen nm _ _ _ gs A _ (hS.at hb1 hB1) (hA.at hb1 hB1) (or_both hc11).1 (or_both hc11).2) ?_)
   rintro e w2 ⟨a15, n15, c15, rfl, hf15⟩
   refine After.fresh (id := 15) rfl hb1 hs1 hB1 hf15 ?_
   have hl15 := hf15.len; clear hf15 hB1 hs1 hb1 w2 w1
   refine ol_r (r_assign rfl) rfl ?_
   refine ol_r (r_assign rfl) rfl ?_
   refine ol_nil (to_k0 (fun _ _ h => h) (hK6 _ _ _ _ _ ?_))
   clear hK6
   refine hQ.ret (rvs2 (rv_t rfl) (rv_t rfl)) (fun _ _ h => h) fun w hb hs hB hkd => ?_
   exact ⟨_, _, _, by rw [crossR, if_neg hc11], by rw [crossR, if_neg hc11]; exact ⟨hb, hs.ok 15 _ rfl⟩⟩
end Go.Proofs.Ytjflbnbofedlkaa

/-
  What harrierlaw5 tells, from the crossings in general; MatchCrossingsMatchSpec.
-/

namespace Go.Proofs.Ytjflbnbofedlkaa
open Go Go.RowKit Hx
set_option linter.unusedVariables false
set_option linter.unusedSimpArgs false
set_option maxRecDepth 8000
theorem told_crossS : crossS toldG (stepsL toldS) (stepsL toldS).length = [⟨0, 0, 5000⟩] := by kernel_rfl
theorem told_R : crossR ⟨#[115]⟩ toldG toldD = ([⟨0, 0, 5000⟩], 0) := by
  unfold crossR
  rw [if_neg (by decide +kernel)]
  exact congrArg (fun l => (l, (0 : Int))) told_crossS
theorem law5_told (w : World) : Calls Try.prog 13 #[] w fun e w' => e = .returned (.bool true) ∧ Below w.heap.size w w' := by
  refine enterQ (N := 31) (C := fun _ => True) (H := []) (B := w.heap.size) (args := []) Try.func13 rfl rfl rfl (Nat.le_refl _) (Sat.nil _ _) fun Q hQ => ?_
  refine wp_seq' fun K1 hK1 => ?_
  refine wp_reg ?_
  refine ol_r (r_assign rfl) rfl ?_
  refine ol_nil (to_k0 (fun _ _ h => h) (hK1 _ _ _ _ _ ?_))
  clear hK1
  refine wp_seq' fun K2 hK2 => ?_
  refine wp_reg ?_
  refine ol_r (r_build rfl (fun _ => bd41_1 _ _)) rfl ?_
  refine ol_r (r_build rfl (fun _ => bd41_1 _ _)) rfl ?_
  refine ol_r (r_build rfl (fun _ => bd79_0_1 _ _ _ _ _)) rfl ?_
  refine ol_r (r_build rfl (fun _ => bd41_0_1 _ _ _)) rfl ?_
  refine ol_r (r_build rfl (fun _ => bd41_0_1 _ _ _)) rfl ?_
  refine ol_r (r_build rfl (fun _ => bd79_0_1 _ _ _ _ _)) rfl ?_
  refine ol_bsG (encGate.enc (toldG)) 11 rfl rw80 rfl rfl (fun _ => by kernel_rfl) rfl fun a11 => ?_
  refine ol_r (r_build rfl (fun _ => bd82_0_1 _ _ _ _ _)) rfl ?_
  refine ol_alloc 1 z82 rfl fun b1 => ?_
  refine ol_store (id := 1) rfl rfl rfl rfl sz82 rfl rfl (by first | decide | exact Nat.zero_lt_succ _ | simp) ?_
  refine ol_nil (to_k0 (fun _ _ h => h) (hK2 _ _ _ _ _ ?_))
  clear hK2
  refine wp_seq' fun K3 hK3 => ?_
  refine wp_reg ?_
  refine ol_r (r_build rfl (fun _ => bd51_1_4_5_6 _ _ _ _ _)) rfl ?_
  refine ol_r (r_build rfl (fun _ => bd51_0_1_4_5_6 _ _ _ _ _ _)) rfl ?_
  refine ol_bsG (encSmp.enc (toldS)) 15 rfl rw35 rfl rfl (fun _ => by kernel_rfl) rfl fun a15 => ?_
  refine ol_r (r_build rfl (fun _ => bd39_0_1_3 _ _ _ _ _ _)) rfl ?_
  refine ol_alloc 2 z39 rfl fun b2 => ?_
  refine ol_store (id := 2) rfl rfl rfl rfl sz39 rfl rfl (by first | decide | exact Nat.zero_lt_succ _ | simp) ?_
  refine ol_nil (to_k0 (fun _ _ h => h) (hK3 _ _ _ _ _ ?_))
  clear hK3
  refine wp_seq' fun K4 hK4 => ?_
  refine wp_reg ?_
  refine ol_r (r_lda (id := 1) (n := 2) rfl rfl rfl ag82) rfl ?_
  refine ol_r (r_lda (id := 2) (n := 6) rfl rfl rfl ag39) rfl ?_
  refine ol_call rfl rfl cb48 rfl (fun w1 hb1 hs1 hB1 => Calls.mono (match_Crossings ⟨#[115]⟩ _ _ _ toldG (toldA a15 2) _ (by show 1 ≤ _; decide) (Sat.rd hs1 (id := 11) rfl rfl) (toldA_ok (Sat.rd hs1 (id := 15) rfl rfl))) ?_)
  rintro e w2 ⟨a20, n20, c20, rfl, hf20⟩
  refine After.fresh (id := 20) rfl hb1 hs1 hB1 hf20 ?_
  have hl20 := hf20.len; clear hf20 hB1 hs1 hb1 w2 w1
  refine ol_r (r_move rfl) rfl ?_
  have hC : crossR ⟨#[115]⟩ toldG (toldA a15 2).d = ([⟨0, 0, 5000⟩], 0) := told_R
  rw [hC] at hl20 ⊢
  dsimp only at hl20 ⊢
  obtain rfl : n20 = 1 := by rw [← hl20]; rfl
  refine ol_r (r_extract rfl rfl) rfl ?_
  refine ol_r (r_extract rfl rfl) rfl ?_
  refine ol_r (r_assign rfl) rfl ?_
  refine ol_r (r_assign rfl) rfl ?_
  refine ol_nil (to_k0 (fun _ _ h => h) (hK4 _ _ _ _ _ ?_))
  clear hK4
  refine wp_seq' fun K5 hK5 => ?_
  refine wp_reg ?_
  refine ol_r (r_move rfl) rfl ?_
  refine ol_r (r_eql rfl rfl) rfl ?_
  refine ol_r (r_move rfl) rfl ?_
  refine ol_split (d := 25) rfl (fun hs25 => ?_) (fun hs25 => ?_)
  ·have phs25 := hs25; try simp only [decide_eq_true_eq, decide_eq_false_iff_not, Bool.not_eq_true', Bool.not_eq_false', Bool.not_true, Bool.not_false] at phs25
   refine ol_g rfl rfl hs25 ?_
   refine ol_r (r_move rfl) rfl ?_
   refine ol_g rfl rfl hs25 ?_
   refine ol_r (r_build rfl (fun _ => bd88_2 _ _)) rfl ?_
   refine ol_g rfl rfl hs25 ?_
   refine ol_bs1 28 rfl rfl rw83 rfl rfl rfl fun a28 => ?_
   refine ol_g rfl rfl hs25 ?_
   refine ol_call rfl rfl cb49 rfl (fun w1 hb1 hs1 hB1 => Calls.mono (equal_cr_same _ _ _ _ _ [⟨0, 0, 5000⟩] _ (Sat.rd hs1 (id := 20) rfl rfl) (Sat.rd hs1 (E := encCr) (xs := [⟨0, 0, 5000⟩]) (id := 28) rfl rfl)) ?_)
   rintro e w2 ⟨rfl, hb2⟩
   refine After.below rfl hb1 hs1 hB1 hb2 ?_
   clear hb2 hB1 hs1 hb1 w2 w1
   refine ol_r (r_pickT rfl hs25 rfl) rfl ?_
   refine ol_r (r_assign rfl) rfl ?_
   refine ol_nil (to_k0 (fun _ _ h => h) (hK5 _ _ _ _ _ ?_))
   clear hK5
   refine hQ.ret (rvs1 (rv_t rfl)) (fun _ _ h => h) fun w hb hs hB hkd => ?_
   first
     | exact ⟨rfl, hb⟩
  ·have phs25 := hs25; try simp only [decide_eq_true_eq, decide_eq_false_iff_not, Bool.not_eq_true', Bool.not_eq_false', Bool.not_true, Bool.not_false] at phs25
   refine ol_s rfl rfl hs25 rfl ?_
   refine ol_s rfl rfl hs25 rfl ?_
   refine ol_s rfl rfl hs25 rfl ?_
   refine ol_s rfl rfl hs25 rfl ?_
   refine ol_r (r_pickF rfl hs25 rfl) rfl ?_
   refine ol_r (r_assign rfl) rfl ?_
   refine ol_nil (to_k0 (fun _ _ h => h) (hK5 _ _ _ _ _ ?_))
   clear hK5
   refine hQ.ret (rvs1 (rv_t rfl)) (fun _ _ h => h) fun w hb hs hB hkd => ?_
   first
     | (exfalso; simp at phs25; done)
end Go.Proofs.Ytjflbnbofedlkaa

/-
  Between the library's contracts of sorting, which speak of worlds, and rows of the caller's.
-/


namespace Go.Proofs.Ytjflbnbofedlkaa.Hx
open Go Go.RowKit
set_option linter.unusedVariables false
set_option linter.unusedSimpArgs false
section
variable {w : World} {B g n cap size : Nat} {e : TypeId} {vs vs' : List Value}
theorem row_cells (h : w.ownsRow B e size (.slice (some ⟨g, 0, none⟩) n cap) n vs) : ∃ cur : Array Value, w.heap[g]? = some (.cells cur e (0, 0)) ∧ vs.length ≤ cur.size ∧ (∀ (j : Nat) (u : Value), vs[j]? = some u → cur[j]? = some u) := by
  obtain ⟨hl, h | ⟨g', cap', cur, hv, hb, hg, h1, h2, h3, h4⟩⟩ := h
  · cases h.1
  · cases hv
    have h5 := Nat.mul_le_mul_right size h1
    refine ⟨cur, hg, by omega, fun j u hj => ?_⟩
    rw [← h4, List.getElem?_take] at hj
    split at hj
    · simpa using hj
    · cases hj
theorem row_holds (h : w.ownsRow B e size (.slice (some ⟨g, 0, none⟩) n cap) n vs) : Go.Sort.Holds id w g 0 vs.toArray := by
  obtain ⟨cur, hg, hs, hc⟩ := row_cells h
  intro j hj
  have hj' : j < vs.length := by simpa using hj
  have h6 := hc j _ (List.getElem?_eq_getElem hj')
  constructor
  · simp [World.cell?, hg, h6, hj']
  · simp [World.frozen?, hg]
/-- The world behind the sort: the row holds other values, draws, and new blocks. -/
def putW (w : World) (g nd : Nat) (vs : List Value) (os : Array Obj) : World := Go.Sort.grow (Go.Sort.putRow id (Go.Sort.ahead w nd) g 0 vs.toArray) os
theorem putW_size (w : World) (g nd : Nat) (vs : List Value) (os : Array Obj) : w.heap.size ≤ (putW w g nd vs os).heap.size := by
  simp [putW, Go.Sort.grow, Go.Sort.putRow, Go.Sort.mapBlock, Go.Sort.ahead]
theorem putW_at {g nd : Nat} {vs : List Value} {os : Array Obj} {cur : Array Value} {fr : Nat × Nat} (hg : w.heap[g]? = some (.cells cur e fr)) : (putW w g nd vs os).heap[g]? = some (.cells (Go.Sort.putCells id 0 vs.toArray cur) e fr) := by
  have hlt := (Array.getElem?_eq_some_iff.1 hg).1
  simp only [putW, Go.Sort.grow, Go.Sort.putRow, Go.Sort.mapBlock, Go.Sort.ahead]
  rw [Array.getElem?_append, if_pos (by simpa using hlt), Array.getElem?_modify, if_pos rfl, hg]
  rfl
theorem putW_other {g nd k : Nat} {vs : List Value} {os : Array Obj} (hk : k < w.heap.size) (hn : k ≠ g) : (putW w g nd vs os).heap[k]? = w.heap[k]? := by
  simp only [putW, Go.Sort.grow, Go.Sort.putRow, Go.Sort.mapBlock, Go.Sort.ahead]
  rw [Array.getElem?_append, if_pos (by simpa using hk), Array.getElem?_modify, if_neg (fun h => hn h.symm)]
theorem putW_row {nd : Nat} {os : Array Obj} (h : w.ownsRow B e size (.slice (some ⟨g, 0, none⟩) n cap) n vs) (hl : vs'.length = vs.length) : (putW w g nd vs' os).ownsRow B e size (.slice (some ⟨g, 0, none⟩) n cap) n vs' := by
  obtain ⟨h0, h | ⟨g', cap', cur, hv, hb, hg, h1, h2, h3, h4⟩⟩ := h
  · cases h.1
  · cases hv
    refine ⟨by rw [hl]; exact h0, .inr ⟨_, _, _, rfl, hb, putW_at hg, h1, h2, by simpa [Go.Sort.putCells] using h3, ?_⟩⟩
    have h5 := Nat.mul_le_mul_right size h1
    apply List.ext_getElem?
    intro j
    rw [List.getElem?_take]
    split
    · rename_i hj
      have hjc : j < cur.size := by omega
      have hjv : j < vs'.length := by omega
      simp [Go.Sort.putCells, hjc, hjv]
    · rename_i hj
      rw [List.getElem?_eq_none (by omega)]
end
theorem Sat.sorted {w : World} {B id g n cap size nd : Nat} {e : TypeId} {vs vs' : List Value} {H : HL} {os : Array Obj} (hs : Sat B w H) (hB : B ≤ w.heap.size) (hr : look H id = some (.row (some ⟨g, 0, none⟩) n cap vs e size)) (hl : vs'.length = vs.length) :
    Below B w (putW w g nd vs' os) ∧ Sat B (putW w g nd vs' os) ((id, .row (some ⟨g, 0, none⟩) n cap vs' e size) :: H) ∧ B ≤ (putW w g nd vs' os).heap.size ∧ Kd (fun _ => False) w (putW w g nd vs' os) := by
  have hok := hs.ok id _ hr
  have hlt := Ent.own_lt hok (b := g) rfl
  obtain ⟨cur, hg, _, _⟩ := row_cells hok
  refine ⟨⟨rfl, rfl, rfl, putW_size _ _ _ _ _, fun k hk => putW_other (by omega) (by omega), Nat.le_add_right _ _⟩, ?_, Nat.le_trans hB (putW_size _ _ _ _ _), ?_⟩
  · refine hs.turn hr (e' := .row (some ⟨g, 0, none⟩) n cap vs' e size) (putW_row hok hl) (fun k hk hne => putW_other hk fun h => hne (by rw [h]; rfl)) (fun b hb => .inl hb)
  · intro k o hk hc _
    by_cases h : k = g
    · subst h; rw [hg] at hk; cases hk; cases hc
    · rw [putW_other (Array.getElem?_eq_some_iff.1 hk).1 h]; exact hk
end Go.Proofs.Ytjflbnbofedlkaa.Hx

/-
  slices.SortFunc of structs: the library's contract, for rows of the caller's.
-/


namespace Go.Proofs.Ytjflbnbofedlkaa
open Go Go.RowKit Go.Sort Hx
set_option linter.unusedVariables false
set_option linter.unusedSimpArgs false
theorem Below.world {w w' : World} (h : Below w.heap.size w w') : ∃ q os, w' = Go.Sort.grow (w.drewN q) os := by
  obtain ⟨h1, h2, h3, h4, h5, h6⟩ := h
  refine ⟨w'.drawn - w.drawn, w'.heap.extract w.heap.size w'.heap.size, ?_⟩
  have hh : w'.heap = w.heap ++ w'.heap.extract w.heap.size w'.heap.size := by
    apply Array.ext_getElem?
    intro k
    rw [Array.getElem?_append]
    by_cases hk : k < w.heap.size
    · rw [if_pos hk]; exact h5 k hk
    · rw [if_neg hk, Array.getElem?_extract]
      by_cases hk2 : k < w'.heap.size
      · rw [if_pos (by omega), show w.heap.size + (k - w.heap.size) = k by omega]
      · rw [if_neg (by omega), Array.getElem?_eq_none (by omega)]
  have hd : w'.drawn = w.drawn + (w'.drawn - w.drawn) := by omega
  cases w'
  simp only at h1 h2 h3 hh hd
  subst h1 h2 h3
  unfold Go.Sort.grow World.drewN
  simp only [World.mk.injEq]
  exact ⟨hh, trivial, hd, trivial, trivial⟩
theorem flat_enc {α : Type} [Inhabited α] (E : Enc α) (d : Array α) : (flatK E.cells E.size d).toList = E.enc d.toList := by
  have hk := E.len
  apply List.ext_getElem?
  intro j
  have hp := E.pos
  by_cases hj : j < d.size * E.size
  · have h1 : j / E.size < d.size := (Nat.div_lt_iff_lt_mul hp).2 hj
    have h2 : d.toList[j / E.size]? = some (d[j / E.size]!) := by
      rw [Array.getElem?_toList, Array.getElem?_eq_getElem h1, getElem!_pos d _ h1]
    have h3 : j % E.size < (E.cells (d[j / E.size]!)).length := by rw [hk]; exact Nat.mod_lt _ hp
    have h4 := E.enc_get d.toList (j / E.size) _ h2 (j % E.size) _ (List.getElem?_eq_getElem h3)
    rw [show j / E.size * E.size + j % E.size = j by rw [Nat.mul_comm]; exact Nat.div_add_mod j E.size] at h4
    rw [h4]
    have h5 := get_flatK E.cells E.size d j hj
    have h6 : j < (flatK E.cells E.size d).size := by simpa using hj
    rw [Array.getElem?_toList, Array.getElem?_eq_getElem h6]
    rw [getElem!_pos (flatK E.cells E.size d) j h6, getElem!_pos (E.cells d[j / E.size]!) (j % E.size) h3] at h5
    rw [h5]
  · rw [List.getElem?_eq_none (by simp; omega), List.getElem?_eq_none (by rw [E.enc_len]; simp; omega)]
def sortBy {α : Type} (cf : α → α → Int) (xs : List α) : List α := xs.mergeSort fun x y => !ltOf cf y x
theorem sortBy_len {α : Type} (cf : α → α → Int) (xs : List α) : (sortBy cf xs).length = xs.length := List.length_mergeSort _
section
variable {P : Program} {ρ : Go.Shelf.Ren} {α : Type} [Inhabited α]
theorem sortK_rows (E : Enc α) (L : SlLaysF0.n6 P ρ) (aE : ∀ w, (isAgg (ρ.t 24)).run P w = .ok true w) (zE : ∀ w, (Go.sizeOf (ρ.t 24)).run P w = .ok E.size w) (cf : α → α → Int) (hO : Go.Sort.SWO (ltOf cf)) (hT : ∀ x y, ltOf cf x y = false → ltOf cf y x = false → x = y) (g : Nat) (cb : Array Value)
    (eg : ∀ args w, (callFunc g args).run P w = .ok (.enter g args) w) (hcmp : ∀ w x y, Calls P g (#[.agg (E.cells x).toArray, .agg (E.cells y).toArray] ++ cb) w fun e w' => e = .returned (.int .i64 (cf x y)) ∧ Below w.heap.size w w')
    (B id : Nat) (a : Option Addr) (n c : Nat) (xs : List α) (T : TypeId) (H : HL) (w : World) (hB : B ≤ w.heap.size) (hs : Sat B w H) (hr : Hx.look H id = some (.row a n c (E.enc xs) T E.size)) (hn : 0 < n) (hsz : n < 4611686018427387904) :
    Calls P (ρ.f 6) #[.slice a n c, .func (.func g) #[] cb] w fun e w' => e = .returned (.tuple #[]) ∧ Below B w w' ∧ Sat B w' ((id, .row a n c (E.enc (sortBy cf xs)) T E.size) :: H) ∧ B ≤ w'.heap.size ∧ Kd (fun _ => False) w w' := by
  have hok := hs.ok id _ hr
  have hlen : xs.length = n := (hs.rd hr rfl).len
  obtain ⟨g', rfl⟩ : ∃ g', a = some ⟨g', 0, none⟩ := by
    obtain ⟨_, h | ⟨g', cap', cur, hv, _⟩⟩ := (hok : w.ownsRow B T E.size (.slice a n c) n (E.enc xs))
    · omega
    · cases hv; exact ⟨g', rfl⟩
  have hlt := (Ent.own_lt hok (b := g') rfl).2
  subst hlen
  have h2 := row_holds hok
  have hfl : flatK E.cells E.size xs.toArray = (E.enc xs).toArray := by
    apply Array.ext'
    rw [flat_enc]
  have hH : HoldsK E.cells E.size w g' 0 xs.toArray := by
    unfold HoldsK
    rw [hfl]; exact h2
  have hcm : CmpLays P g cb E.cells E.size cf g' 0 xs.toArray.size w := fun m os dk _ x y => by
    refine (hcmp _ x y).mono ?_
    rintro e w2 ⟨he, hb⟩
    exact ⟨he, hb.world⟩
  have hones : ∀ x, ∀ v ∈ E.cells x, v.oneCell' = true := fun x v hv => oneCell_of (E.ones x v hv)
  have h := AnyQ.slices_SortFunc_total L E.size aE zE E.cells E.len hones cf hO g cb g' 0 c xs.toArray w eg hcm hH hlt (by simpa using hsz) hT
  rw [List.size_toArray] at h
  refine h.mono ?_
  rintro e w' ⟨rfl, nd, os, rfl⟩
  have hw : sortWorldK E.cells E.size w g' 0 nd (xs.toArray.toList.mergeSort fun x y => !(ltOf cf) y x).toArray os = putW w g' nd (E.enc (sortBy cf xs)) os := by
    unfold sortWorldK putRowK putW sortBy
    congr 2
    apply Array.ext'
    rw [flat_enc]
  rw [hw]
  exact ⟨rfl, hs.sorted hB hr (by rw [E.enc_len, E.enc_len, sortBy_len])⟩
end
end Go.Proofs.Ytjflbnbofedlkaa

/-
  More rules: what is left of an own row, read from its front.
-/

namespace Go.Proofs.Ytjflbnbofedlkaa.Hx
open Go Go.RowKit
set_option linter.unusedVariables false
set_option linter.unusedSimpArgs false
/-- Where the rest of a row begins. -/
def TlP (a p : Option Addr) (i n size : Nat) : Prop := i < n → p = a.map (·.add (i * size))
theorem TlP.zero {a : Option Addr} {n size : Nat} (h : 0 < n → ∃ g, a = some ⟨g, 0, none⟩) : TlP a a 0 n size := fun hn => by
  obtain ⟨g, rfl⟩ := h hn
  simp only [Option.map_some, add_none, Nat.zero_mul, Nat.add_zero]
theorem TlP.next {a p : Option Addr} {i n size c : Nat} (h : TlP a p i n size) (ha : 0 < n → ∃ g, a = some ⟨g, 0, none⟩) (hc : n ≤ c) : TlP a (if c - i = 1 then p else p.map (·.add (1 * size))) (i + 1) n size := fun hn => by
  obtain ⟨g, rfl⟩ := ha (by omega)
  rw [h (by omega), if_neg (by omega)]
  simp only [Option.map_some, add_none, Nat.add_mul, Nat.add_assoc]
section
variable {P : Program} {N : Fr} {B : Nat} {w0 : World} {Q : Exit → Act → World → Prop} {al : AL} {H : HL} {ops rest tail : List Oper} {d : Nat} {ty : TypeId} {pos : String} {after : Array Edge} {α : Type}
theorem row_head {w : World} {id n cap size : Nat} {a : Option Addr} {xs : List Value} {e : TypeId} (hs : Sat B w H) (hr : look H id = some (.row a n cap xs e size)) (hn : 0 < n) : ∃ g, a = some ⟨g, 0, none⟩ := by
  obtain ⟨_, h | ⟨g, cap', cur, hv, _⟩⟩ := (hs.ok id _ hr : w.ownsRow B e size (.slice a n cap) n xs)
  · omega
  · cases hv; exact ⟨g, rfl⟩
theorem r_ixT {s ix : Operand} {t e : TypeId} {id n cap size i m c : Nat} {kd : IntKind} {iv : Int} {a p : Option Addr} (E : Enc α) (xs : List α) (hs : ev al s = some (.slice p m c)) (hH : look H id = some (.row a n cap (E.enc xs) e size)) (hz : size = E.size) (hi : ev al ix = some (.int kd iv)) (hT : Slc P t E.size)
    (hp : TlP a p i n E.size) (hm : m = n - i) (h0 : 0 ≤ iv ∧ i + iv < n) : Runs P N B w0 (.indexAddr t s ix) ty al H (.pointer (a.map (·.add ((i + iv.toNat) * E.size)))) := fun a0 w hst => by
  obtain ⟨g, rfl⟩ := row_head hst.sat hH (by omega)
  have hpe := hp (by omega)
  subst hpe
  have h1 := r_ix (P := P) (N := N) (B := B) (w0 := w0) (H := H) (ty := ty) hs hi hT rfl (by omega) a0 w hst
  rw [h1]
  simp only [Option.map_some, add_none, Nat.add_mul, Nat.add_assoc]
theorem ol_ixT {s ix : Operand} {t e : TypeId} {id n cap size m c : Nat} (i : Nat) {kd : IntKind} {iv : Int} {a p : Option Addr} (E : Enc α) (xs : List α) (hs : ev al s = some (.slice p m c)) (hH : look H id = some (.row a n cap (E.enc xs) e size)) (hz : size = E.size) (hi : ev al ix = some (.int kd iv)) (hT : Slc P t E.size)
    (hp : TlP a p i n E.size) (hm : m = n - i) (h0 : 0 ≤ iv ∧ i + iv < n) (hlen : xs.length = n) (hd : Nat.blt d N.n = true)
    (k : ∀ x, xs[i + iv.toNat]? = some x → OL P N B w0 ops rest Q ((d, .pointer (a.map (·.add ((i + iv.toNat) * E.size)))) :: al) H) :
    OL P N B w0 ops ({ dst := some d, op := .indexAddr t s ix, type := ty, pos, after, guard := none } :: rest) Q al H :=
  ol_r (r_ixT E xs hs hH hz hi hT hp hm h0) hd (k (xs[i + iv.toNat]'(by omega)) (by simp))
theorem ql_ixT {Qa : Act → Prop} {s ix : Operand} {t e : TypeId} {id n cap size m c : Nat} (i : Nat) {kd : IntKind} {iv : Int} {a p : Option Addr} (E : Enc α) (xs : List α) (hs : ev al s = some (.slice p m c)) (hH : look H id = some (.row a n cap (E.enc xs) e size)) (hz : size = E.size) (hi : ev al ix = some (.int kd iv)) (hT : Slc P t E.size)
    (hp : TlP a p i n E.size) (hm : m = n - i) (h0 : 0 ≤ iv ∧ i + iv < n) (hlen : xs.length = n) (hd : Nat.blt d N.n = true)
    (k : ∀ x, xs[i + iv.toNat]? = some x → QL P N B w0 ops rest Qa ((d, .pointer (a.map (·.add ((i + iv.toNat) * E.size)))) :: al) H) :
    QL P N B w0 ops ({ dst := some d, op := .indexAddr t s ix, type := ty, pos, after, guard := none } :: rest) Qa al H :=
  ql_r (r_ixT E xs hs hH hz hi hT hp hm h0) hd (k (xs[i + iv.toNat]'(by omega)) (by simp))
theorem r_slN {s lo : Operand} {m c : Nat} {p : Option Addr} {t : TypeId} {size : Nat} (hs : ev al s = some (.slice p m c)) (hlo : evo al (some lo) = some (some 1)) (hT : Slc P t size) (h0 : 1 ≤ m ∧ m ≤ c) :
    Runs P N B w0 (.slice t s (some lo) none none) ty al H (.slice (if c = 1 then p else p.map (·.add (1 * size))) (m - 1) (c - 1)) := by
  have h := r_sl (P := P) (N := N) (B := B) (w0 := w0) (H := H) (ty := ty) hs hlo (hi := none) (h := none) rfl hT (by simp; omega) h0.2
  exact h
end
end Go.Proofs.Ytjflbnbofedlkaa.Hx

/-
  Small things of several texts: cmp.Compare of ints, keys that are ints, the front of new memory.
-/


namespace Go.Proofs.Ytjflbnbofedlkaa
open Go Go.RowKit Hx
set_option linter.unusedVariables false
set_option linter.unusedSimpArgs false
set_option maxRecDepth 8000
theorem cmp_isNaNI (x : Int) (w : World) : Calls Try.prog 118 #[.int .i64 x] w fun e w' => e = .returned (.bool false) ∧ Below w.heap.size w w' := by
  refine enterQ (N := 6) (C := fun _ => True) (H := []) (B := w.heap.size) (args := [_]) Try.func118 rfl rfl rfl (Nat.le_refl _) (Sat.nil _ _) fun Q hQ => ?_
  refine wp_seq' fun K1 hK1 => ?_
  refine wp_reg ?_
  refine ol_r (r_assign rfl) rfl ?_
  refine ol_nil (to_k0 (fun _ _ h => h) (hK1 _ _ _ _ _ ?_))
  clear hK1
  refine wp_seq' fun K2 hK2 => ?_
  refine wp_reg ?_
  refine ol_r (r_move rfl) rfl ?_
  refine ol_r (r_move rfl) rfl ?_
  refine ol_r (r_neq rfl rfl) rfl ?_
  refine ol_r (r_assign rfl) rfl ?_
  refine ol_nil (to_k0 (fun _ _ h => h) (hK2 _ _ _ _ _ ?_))
  clear hK2
  refine hQ.ret (rvs1 (rv_t rfl)) (fun _ _ h => h) fun w hb hs hB hkd => ?_
  exact ⟨by simp, hb⟩
theorem cmp_CompareI (x y : Int) (w : World) : Calls Try.prog 97 #[.int .i64 x, .int .i64 y] w fun e w' => e = .returned (.int .i64 (cmpI x y)) ∧ Below w.heap.size w w' := by
  refine enterQ (N := 20) (C := fun _ => True) (H := []) (B := w.heap.size) (args := [_, _]) Try.func97 rfl rfl rfl (Nat.le_refl _) (Sat.nil _ _) fun Q hQ => ?_
  refine wp_seq' fun K1 hK1 => ?_
  refine wp_reg ?_
  refine ol_r (r_assign rfl) rfl ?_
  refine ol_nil (to_k0 (fun _ _ h => h) (hK1 _ _ _ _ _ ?_))
  clear hK1
  refine wp_seq' fun K2 hK2 => ?_
  refine wp_reg ?_
  refine ol_r (r_move rfl) rfl ?_
  refine ol_call rfl rfl cb118 rfl (fun w1 hb1 hs1 hB1 => Calls.mono (cmp_isNaNI _ _) ?_)
  rintro e w2 ⟨rfl, hb2⟩
  refine After.below rfl hb1 hs1 hB1 hb2 ?_
  clear hb2 hB1 hs1 hb1 w2 w1
  refine ol_r (r_assign rfl) rfl ?_
  refine ol_nil (to_k0 (fun _ _ h => h) (hK2 _ _ _ _ _ ?_))
  clear hK2
  refine wp_seq' fun K3 hK3 => ?_
  refine wp_reg ?_
  refine ol_r (r_move rfl) rfl ?_
  refine ol_call rfl rfl cb118 rfl (fun w1 hb1 hs1 hB1 => Calls.mono (cmp_isNaNI _ _) ?_)
  rintro e w2 ⟨rfl, hb2⟩
  refine After.below rfl hb1 hs1 hB1 hb2 ?_
  clear hb2 hB1 hs1 hb1 w2 w1
  refine ol_r (r_assign rfl) rfl ?_
  refine ol_nil (to_k0 (fun _ _ h => h) (hK3 _ _ _ _ _ ?_))
  clear hK3
  refine wp_seq' fun K4 hK4 => ?_
  refine wp_seq' fun K5 hK5 => ?_
  refine wp_reg ?_
  refine ol_r (r_move rfl) rfl ?_
  refine ol_nil (to_k0 (fun _ _ h => h) (hK5 _ _ _ _ _ ?_))
  clear hK5
  first | refine wp_condD rfl (fun hc11 => ?_) (fun hc11 => ?_) | refine wp_condN rfl (fun hc11 => ?_) (fun hc11 => ?_) | refine wp_condNB rfl (fun hc11 => ?_) (fun hc11 => ?_) | refine wp_cond' rfl (fun hc11 => ?_) (fun hc11 => ?_)
  ·refine wp_seq' fun K6 hK6 => ?_
   refine wp_seq' fun K7 hK7 => ?_
   refine wp_reg ?_
   refine ol_r (r_move rfl) rfl ?_
   refine ol_nil (to_k0 (fun _ _ h => h) (hK7 _ _ _ _ _ ?_))
   clear hK7
   first | refine wp_condD rfl (fun hc12 => ?_) (fun hc12 => ?_) | refine wp_condN rfl (fun hc12 => ?_) (fun hc12 => ?_) | refine wp_condNB rfl (fun hc12 => ?_) (fun hc12 => ?_) | refine wp_cond' rfl (fun hc12 => ?_) (fun hc12 => ?_)
   ·refine wp_seq' fun K8 hK8 => ?_
    refine wp_reg ?_
    refine ol_r (r_assign rfl) rfl ?_
    refine ol_nil (to_k0 (fun _ _ h => h) (hK8 _ _ _ _ _ ?_))
    clear hK8
    refine hQ.ret (rvs1 (rv_t rfl)) (fun _ _ h => h) fun w hb hs hB hkd => ?_
    first
      | exact ⟨by unfold cmpI; rw [if_pos (by omega)], hb⟩
      | exact ⟨by unfold cmpI; rw [if_neg (by omega), if_pos (by omega)], hb⟩
      | exact ⟨by unfold cmpI; rw [if_neg (by omega), if_neg (by omega)], hb⟩
      | (exfalso; simp_all; done)
   ·refine wp_skip' (to_k0 (fun _ _ h => h) (hK6 _ _ _ _ _ ?_))
    clear hK6
    refine wp_seq' fun K9 hK9 => ?_
    refine wp_reg ?_
    refine ol_r (r_assign rfl) rfl ?_
    refine ol_nil (to_k0 (fun _ _ h => h) (hK9 _ _ _ _ _ ?_))
    clear hK9
    refine hQ.ret (rvs1 (rv_t rfl)) (fun _ _ h => h) fun w hb hs hB hkd => ?_
    first
      | exact ⟨by unfold cmpI; rw [if_pos (by omega)], hb⟩
      | exact ⟨by unfold cmpI; rw [if_neg (by omega), if_pos (by omega)], hb⟩
      | exact ⟨by unfold cmpI; rw [if_neg (by omega), if_neg (by omega)], hb⟩
      | (exfalso; simp_all; done)
  ·refine wp_skip' (to_k0 (fun _ _ h => h) (hK4 _ _ _ _ _ ?_))
   clear hK4
   refine wp_seq' fun K10 hK10 => ?_
   refine wp_seq' fun K11 hK11 => ?_
   refine wp_reg ?_
   refine ol_r (r_move rfl) rfl ?_
   refine ol_nil (to_k0 (fun _ _ h => h) (hK11 _ _ _ _ _ ?_))
   clear hK11
   first | refine wp_condD rfl (fun hc13 => ?_) (fun hc13 => ?_) | refine wp_condN rfl (fun hc13 => ?_) (fun hc13 => ?_) | refine wp_condNB rfl (fun hc13 => ?_) (fun hc13 => ?_) | refine wp_cond' rfl (fun hc13 => ?_) (fun hc13 => ?_)
   ·refine wp_seq' fun K12 hK12 => ?_
    refine wp_reg ?_
    refine ol_r (r_assign rfl) rfl ?_
    refine ol_nil (to_k0 (fun _ _ h => h) (hK12 _ _ _ _ _ ?_))
    clear hK12
    refine hQ.ret (rvs1 (rv_t rfl)) (fun _ _ h => h) fun w hb hs hB hkd => ?_
    first
      | exact ⟨by unfold cmpI; rw [if_pos (by omega)], hb⟩
      | exact ⟨by unfold cmpI; rw [if_neg (by omega), if_pos (by omega)], hb⟩
      | exact ⟨by unfold cmpI; rw [if_neg (by omega), if_neg (by omega)], hb⟩
      | (exfalso; simp_all; done)
   ·refine wp_skip' (to_k0 (fun _ _ h => h) (hK10 _ _ _ _ _ ?_))
    clear hK10
    refine wp_seq' fun K13 hK13 => ?_
    refine wp_seq' fun K14 hK14 => ?_
    refine wp_reg ?_
    refine ol_r (r_move rfl) rfl ?_
    refine ol_r (r_move rfl) rfl ?_
    refine ol_r (r_lss rfl rfl) rfl ?_
    refine ol_nil (to_k0 (fun _ _ h => h) (hK14 _ _ _ _ _ ?_))
    clear hK14
    first | refine wp_condD rfl (fun hc16 => ?_) (fun hc16 => ?_) | refine wp_condN rfl (fun hc16 => ?_) (fun hc16 => ?_) | refine wp_condNB rfl (fun hc16 => ?_) (fun hc16 => ?_) | refine wp_cond' rfl (fun hc16 => ?_) (fun hc16 => ?_)
    ·refine wp_seq' fun K15 hK15 => ?_
     refine wp_reg ?_
     refine ol_r (r_assign rfl) rfl ?_
     refine ol_nil (to_k0 (fun _ _ h => h) (hK15 _ _ _ _ _ ?_))
     clear hK15
     refine hQ.ret (rvs1 (rv_t rfl)) (fun _ _ h => h) fun w hb hs hB hkd => ?_
     first
       | exact ⟨by unfold cmpI; rw [if_pos (by omega)], hb⟩
       | exact ⟨by unfold cmpI; rw [if_neg (by omega), if_pos (by omega)], hb⟩
       | exact ⟨by unfold cmpI; rw [if_neg (by omega), if_neg (by omega)], hb⟩
       | (exfalso; simp_all; done)
    ·refine wp_skip' (to_k0 (fun _ _ h => h) (hK13 _ _ _ _ _ ?_))
     clear hK13
     refine wp_seq' fun K16 hK16 => ?_
     refine wp_seq' fun K17 hK17 => ?_
     refine wp_reg ?_
     refine ol_r (r_move rfl) rfl ?_
     refine ol_r (r_move rfl) rfl ?_
     refine ol_r (r_gtr rfl rfl) rfl ?_
     refine ol_nil (to_k0 (fun _ _ h => h) (hK17 _ _ _ _ _ ?_))
     clear hK17
     first | refine wp_condD rfl (fun hc19 => ?_) (fun hc19 => ?_) | refine wp_condN rfl (fun hc19 => ?_) (fun hc19 => ?_) | refine wp_condNB rfl (fun hc19 => ?_) (fun hc19 => ?_) | refine wp_cond' rfl (fun hc19 => ?_) (fun hc19 => ?_)
     ·refine wp_seq' fun K18 hK18 => ?_
      refine wp_reg ?_
      refine ol_r (r_assign rfl) rfl ?_
      refine ol_nil (to_k0 (fun _ _ h => h) (hK18 _ _ _ _ _ ?_))
      clear hK18
      refine hQ.ret (rvs1 (rv_t rfl)) (fun _ _ h => h) fun w hb hs hB hkd => ?_
      first
        | exact ⟨by unfold cmpI; rw [if_pos (by omega)], hb⟩
        | exact ⟨by unfold cmpI; rw [if_neg (by omega), if_pos (by omega)], hb⟩
        | exact ⟨by unfold cmpI; rw [if_neg (by omega), if_neg (by omega)], hb⟩
        | (exfalso; simp_all; done)
     ·refine wp_skip' (to_k0 (fun _ _ h => h) (hK16 _ _ _ _ _ ?_))
      clear hK16
      refine wp_seq' fun K19 hK19 => ?_
      refine wp_reg ?_
      refine ol_r (r_assign rfl) rfl ?_
      refine ol_nil (to_k0 (fun _ _ h => h) (hK19 _ _ _ _ _ ?_))
      clear hK19
      refine hQ.ret (rvs1 (rv_t rfl)) (fun _ _ h => h) fun w hb hs hB hkd => ?_
      first
        | exact ⟨by unfold cmpI; rw [if_pos (by omega)], hb⟩
        | exact ⟨by unfold cmpI; rw [if_neg (by omega), if_pos (by omega)], hb⟩
        | exact ⟨by unfold cmpI; rw [if_neg (by omega), if_neg (by omega)], hb⟩
        | (exfalso; simp_all; done)
theorem Hx.Fresh.head {α : Type} {E : Enc α} {e : TypeId} {w w' : World} {a : Option Addr} {n cap : Nat} {ys : List α} (h : Fresh E e w w' a n cap ys) : (0 < n → ∃ g, a = some ⟨g, 0, none⟩) ∧ n ≤ cap ∧ cap ≤ 9223372036854775807 := by
  obtain ⟨_, h1, h2 | ⟨g, cap', cur, hv, _, _, h3, h4, _⟩⟩ := h
  · cases h2.1
    exact ⟨fun h => by have := h2.2; omega, by have := h2.2; omega, by omega⟩
  · cases hv
    exact ⟨fun _ => ⟨g, rfl⟩, h3, h4⟩
theorem intKey_chk (e : Bool) (x : Int) (w : World) (n : Nat) : (Instr.checkKey e (n + 1) 3 (.int .i64 x)).run Try.prog w = .ok () w := by
  rw [Instr.checkKey]
  simp only [Sem.run_bind, run_underlying (Try.underlying3), Result.andThen_ok]
  rfl
end Go.Proofs.Ytjflbnbofedlkaa

/-
  Tiles: their order, their places, maps of them.
-/







namespace Go.Proofs.Ytjflbnbofedlkaa
open Go Go.RowKit Hx
set_option linter.unusedVariables false
set_option linter.unusedSimpArgs false
set_option maxRecDepth 8000
def encTile : Enc TileR := { size := 2, cells := fun x => [.int .i64 x.1, .int .i64 x.2], val := fun x => .agg #[.int .i64 x.1, .int .i64 x.2], len := fun _ => rfl, ones := fun _ u h => by simp at h; rcases h with rfl | rfl <;> rfl, pos := by decide, vc := fun _ => rfl }
theorem ty42 : Ty Try.prog 42 encTile := .inr ⟨ag42, fun _ => rfl⟩
def tcf (a b : TileR) : Int := orL [cmpI a.1 b.1, cmpI a.2 b.2]
theorem tcf_lt (a b : TileR) : ltOf tcf a b = tlt a b := by
  unfold ltOf tcf tlt orL orL orL cmpI
  repeat' split
  all_goals (simp; try omega)
theorem tcf_swo : Go.Sort.SWO (ltOf tcf) := by
  refine ⟨fun x => ?_, fun x y z h1 h2 => ?_, fun x y z h1 h2 => ?_⟩
  · rw [tcf_lt, tlt_no]; omega
  · rw [tcf_lt] at *; exact tlt_tot.trans _ _ _ h1 h2
  · rw [tcf_lt] at *; rw [tlt_no] at *; omega
theorem match_tileOrder (a b : TileR) (w : World) : Calls Try.prog 69 #[encTile.val a, encTile.val b] w fun e w' => e = .returned (.int .i64 (tcf a b)) ∧ Below w.heap.size w w' := by
  refine enterQ (N := 17) (C := fun _ => True) (H := []) (B := w.heap.size) (args := [_, _]) Try.func69 rfl rfl rfl (Nat.le_refl _) (Sat.nil _ _) fun Q hQ => ?_
  refine wp_seq' fun K1 hK1 => ?_
  refine wp_reg ?_
  refine ol_box 2 rfl rfl rfl fun b2 => ?_
  refine ol_box 3 rfl rfl rfl fun b3 => ?_
  refine ol_r (r_assign rfl) rfl ?_
  refine ol_nil (to_k0 (fun _ _ h => h) (hK1 _ _ _ _ _ ?_))
  clear hK1
  apply wp_seq_cutM (σ := Unit) (fun s => True) (fun s => [(4, .int .i64 (tcf a b))]) [] (fun s => []) [(2, _), (3, _)]
  ·exact sub_nil
  ·exact (subH_same rfl (subH_same rfl subH_nil))
  ·intro K2 hK2
   refine wp_rega [(999, [(2, _), (3, _)])] (by kernel_rfl) ⟨.inr (subH_same rfl (subH_same rfl subH_nil)), trivial⟩ ?_
   refine aq_r 0 999 rfl (by kernel_rfl) (by kernel_rfl) (by kernel_rfl) (.head _) (by kernel_rfl) (by kernel_rfl) rfl (r_fa (o' := 0) rfl fl42_0 rfl) ?_
   refine aq_r 1 999 rfl (by kernel_rfl) (by kernel_rfl) (by kernel_rfl) (.head _) (by kernel_rfl) (by kernel_rfl) rfl (r_ld (id := 2) rfl rfl rfl sc3) ?_
   refine aq_r 2 999 rfl (by kernel_rfl) (by kernel_rfl) (by kernel_rfl) (.head _) (by kernel_rfl) (by kernel_rfl) rfl (r_fa (o' := 0) rfl fl42_0 rfl) ?_
   refine aq_r 3 999 rfl (by kernel_rfl) (by kernel_rfl) (by kernel_rfl) (.head _) (by kernel_rfl) (by kernel_rfl) rfl (r_ld (id := 3) rfl rfl rfl sc3) ?_
   refine aq_r 5 999 rfl (by kernel_rfl) (by kernel_rfl) (by kernel_rfl) (.head _) (by kernel_rfl) (by kernel_rfl) rfl (r_fa (o' := 1) rfl fl42_1 rfl) ?_
   refine aq_r 6 999 rfl (by kernel_rfl) (by kernel_rfl) (by kernel_rfl) (.head _) (by kernel_rfl) (by kernel_rfl) rfl (r_ld (id := 2) rfl rfl rfl sc3) ?_
   refine aq_r 7 999 rfl (by kernel_rfl) (by kernel_rfl) (by kernel_rfl) (.head _) (by kernel_rfl) (by kernel_rfl) rfl (r_fa (o' := 1) rfl fl42_1 rfl) ?_
   refine aq_r 8 999 rfl (by kernel_rfl) (by kernel_rfl) (by kernel_rfl) (.head _) (by kernel_rfl) (by kernel_rfl) rfl (r_ld (id := 3) rfl rfl rfl sc3) ?_
   refine aq_one (i := 4) (by kernel_rfl) rfl fun K3 hK3 => ?_
   refine ol_call rfl rfl cb97 rfl (fun w1 hb1 hs1 hB1 => Calls.mono (cmp_CompareI _ _ _) ?_)
   rintro e w2 ⟨rfl, hb2⟩
   refine After.below rfl hb1 hs1 hB1 hb2 ?_
   clear hb2 hB1 hs1 hb1 w2 w1
   refine ol_nil (to_k0 (fun _ _ h => h) (hK3 _ _ ⟨.inr (by repeat' first | exact subH_nil | refine subH_same rfl ?_ | (refine subH_blk rfl (by repeat' first | exact sub_nil | refine sub_cons rfl ?_) ?_)), trivial⟩ ?_))
   clear hK3
   refine aq_one (i := 9) (by kernel_rfl) rfl fun K4 hK4 => ?_
   refine ol_call rfl rfl cb97 rfl (fun w1 hb1 hs1 hB1 => Calls.mono (cmp_CompareI _ _ _) ?_)
   rintro e w2 ⟨rfl, hb2⟩
   refine After.below rfl hb1 hs1 hB1 hb2 ?_
   clear hb2 hB1 hs1 hb1 w2 w1
   refine ol_nil (to_k0 (fun _ _ h => h) (hK4 _ _ ⟨.inr (by repeat' first | exact subH_nil | refine subH_same rfl ?_ | (refine subH_blk rfl (by repeat' first | exact sub_nil | refine sub_cons rfl ?_) ?_)), trivial⟩ ?_))
   clear hK4
   refine aq_one (i := 10) (by kernel_rfl) rfl fun K5 hK5 => ?_
   refine ol_bsN 15 rfl rw150 rfl rfl (fun _ => by kernel_rfl) rfl fun a15 => ?_
   refine ol_nil (to_k0 (fun _ _ h => h) (hK5 _ _ ⟨.inr (by repeat' first | exact subH_nil | refine subH_same rfl ?_ | (refine subH_blk rfl (by repeat' first | exact sub_nil | refine sub_cons rfl ?_) ?_)), trivial⟩ ?_))
   clear hK5
   refine aq_one (i := 11) (by kernel_rfl) rfl fun K6 hK6 => ?_
   refine ol_call rfl rfl cb96 rfl (fun w1 hb1 hs1 hB1 => Calls.mono (cmp_OrI _ _ _ [cmpI a.1 b.1, cmpI a.2 b.2] _ (Sat.rd hs1 (E := encI) (id := 15) rfl rfl)) ?_)
   rintro e w2 ⟨rfl, hb2⟩
   refine After.below rfl hb1 hs1 hB1 hb2 ?_
   clear hb2 hB1 hs1 hb1 w2 w1
   refine ol_nil (to_k0 (fun _ _ h => h) (hK6 _ _ ⟨.inr (by repeat' first | exact subH_nil | refine subH_same rfl ?_ | (refine subH_blk rfl (by repeat' first | exact sub_nil | refine sub_cons rfl ?_) ?_)), trivial⟩ ?_))
   clear hK6
   refine aq_r 12 999 rfl (by kernel_rfl) (by kernel_rfl) (by kernel_rfl) (.head _) (by kernel_rfl) (by kernel_rfl) rfl (r_assign rfl) ?_
   refine aq_done (by kernel_rfl) ?_
   refine (to_k0 (fun _ _ h => h) (hK2 (()) _ _ ?_ (sub_cons rfl sub_nil) sub_nil subH_nil (subH_same rfl (subH_same rfl subH_nil))))
   try dsimp only
   all_goals trivial
  ·rintro s hI
   refine hQ.ret (rvs1 (rv_t rfl)) (fun _ _ h => h) fun w hb hs hB hkd => ?_
   exact ⟨rfl, hb⟩
theorem ref5_comes (a b : TileR) (w : World) : Calls Try.prog 73 #[encTile.val a, encTile.val b] w fun e w' => e = .returned (.bool (tlt a b)) ∧ Below w.heap.size w w' := by
  refine enterQ (N := 24) (C := fun _ => True) (H := []) (B := w.heap.size) (args := [_, _]) Try.func73 rfl rfl rfl (Nat.le_refl _) (Sat.nil _ _) fun Q hQ => ?_
  refine wp_seq' fun K1 hK1 => ?_
  refine wp_reg ?_
  refine ol_box 2 rfl rfl rfl fun b2 => ?_
  refine ol_box 3 rfl rfl rfl fun b3 => ?_
  refine ol_r (r_assign rfl) rfl ?_
  refine ol_nil (to_k0 (fun _ _ h => h) (hK1 _ _ _ _ _ ?_))
  clear hK1
  refine wp_seq' fun K2 hK2 => ?_
  refine wp_reg ?_
  refine ol_r (r_fa (o' := 0) rfl fl42_0 rfl) rfl ?_
  refine ol_r (r_ld (id := 2) rfl rfl rfl sc3) rfl ?_
  refine ol_r (r_fa (o' := 0) rfl fl42_0 rfl) rfl ?_
  refine ol_r (r_ld (id := 3) rfl rfl rfl sc3) rfl ?_
  refine ol_r (r_lss rfl rfl) rfl ?_
  refine ol_r (r_move rfl) rfl ?_
  refine ol_split (d := 10) rfl (fun hs10 => ?_) (fun hs10 => ?_)
  ·have phs10 := hs10; try simp only [decide_eq_true_eq, decide_eq_false_iff_not, Bool.not_eq_true', Bool.not_eq_false', Bool.not_true, Bool.not_false] at phs10
   refine ol_s rfl rfl hs10 rfl ?_
   refine ol_s rfl rfl hs10 rfl ?_
   refine ol_s rfl rfl hs10 rfl ?_
   refine ol_s rfl rfl hs10 rfl ?_
   refine ol_s rfl rfl hs10 rfl ?_
   refine ol_s rfl rfl hs10 rfl ?_
   refine ol_u rfl rfl rfl ?_
   refine ol_u rfl rfl rfl ?_
   refine ol_u rfl rfl rfl ?_
   refine ol_u rfl rfl rfl ?_
   refine ol_u rfl rfl rfl ?_
   refine ol_s rfl rfl hs10 rfl ?_
   refine ol_r (r_pickT rfl hs10 rfl) rfl ?_
   refine ol_r (r_assign rfl) rfl ?_
   refine ol_nil (to_k0 (fun _ _ h => h) (hK2 _ _ _ _ _ ?_))
   clear hK2
   refine hQ.ret (rvs1 (rv_t rfl)) (fun _ _ h => h) fun w hb hs hB hkd => ?_
   refine ⟨congrArg (fun b => Ending.returned (Value.bool b)) ?_, hb⟩
   unfold tlt
   simp_all
  ·have phs10 := hs10; try simp only [decide_eq_true_eq, decide_eq_false_iff_not, Bool.not_eq_true', Bool.not_eq_false', Bool.not_true, Bool.not_false] at phs10
   refine ol_g rfl rfl hs10 ?_
   refine ol_r (r_fa (o' := 0) rfl fl42_0 rfl) rfl ?_
   refine ol_g rfl rfl hs10 ?_
   refine ol_r (r_ld (id := 2) rfl rfl rfl sc3) rfl ?_
   refine ol_g rfl rfl hs10 ?_
   refine ol_r (r_fa (o' := 0) rfl fl42_0 rfl) rfl ?_
   refine ol_g rfl rfl hs10 ?_
   refine ol_r (r_ld (id := 3) rfl rfl rfl sc3) rfl ?_
   refine ol_g rfl rfl hs10 ?_
   refine ol_r (r_eql rfl rfl) rfl ?_
   refine ol_g rfl rfl hs10 ?_
   refine ol_r (r_move rfl) rfl ?_
   refine ol_split (d := 16) rfl (fun hs16 => ?_) (fun hs16 => ?_)
   ·have phs16 := hs16; try simp only [decide_eq_true_eq, decide_eq_false_iff_not, Bool.not_eq_true', Bool.not_eq_false', Bool.not_true, Bool.not_false] at phs16
    refine ol_g rfl rfl hs16 ?_
    refine ol_r (r_fa (o' := 1) rfl fl42_1 rfl) rfl ?_
    refine ol_g rfl rfl hs16 ?_
    refine ol_r (r_ld (id := 2) rfl rfl rfl sc3) rfl ?_
    refine ol_g rfl rfl hs16 ?_
    refine ol_r (r_fa (o' := 1) rfl fl42_1 rfl) rfl ?_
    refine ol_g rfl rfl hs16 ?_
    refine ol_r (r_ld (id := 3) rfl rfl rfl sc3) rfl ?_
    refine ol_g rfl rfl hs16 ?_
    refine ol_r (r_lss rfl rfl) rfl ?_
    refine ol_g rfl rfl hs10 ?_
    refine ol_r (r_pickT rfl hs16 rfl) rfl ?_
    refine ol_r (r_pickF rfl hs10 rfl) rfl ?_
    refine ol_r (r_assign rfl) rfl ?_
    refine ol_nil (to_k0 (fun _ _ h => h) (hK2 _ _ _ _ _ ?_))
    clear hK2
    refine hQ.ret (rvs1 (rv_t rfl)) (fun _ _ h => h) fun w hb hs hB hkd => ?_
    refine ⟨congrArg (fun b => Ending.returned (Value.bool b)) ?_, hb⟩
    unfold tlt
    simp_all
   ·have phs16 := hs16; try simp only [decide_eq_true_eq, decide_eq_false_iff_not, Bool.not_eq_true', Bool.not_eq_false', Bool.not_true, Bool.not_false] at phs16
    refine ol_s rfl rfl hs16 rfl ?_
    refine ol_s rfl rfl hs16 rfl ?_
    refine ol_s rfl rfl hs16 rfl ?_
    refine ol_s rfl rfl hs16 rfl ?_
    refine ol_s rfl rfl hs16 rfl ?_
    refine ol_g rfl rfl hs10 ?_
    refine ol_r (r_pickF rfl hs16 rfl) rfl ?_
    refine ol_r (r_pickF rfl hs10 rfl) rfl ?_
    refine ol_r (r_assign rfl) rfl ?_
    refine ol_nil (to_k0 (fun _ _ h => h) (hK2 _ _ _ _ _ ?_))
    clear hK2
    refine hQ.ret (rvs1 (rv_t rfl)) (fun _ _ h => h) fun w hb hs hB hkd => ?_
    refine ⟨congrArg (fun b => Ending.returned (Value.bool b)) ?_, hb⟩
    unfold tlt
    simp_all
theorem match_tile (x y : Int) (w : World) : Calls Try.prog 66 #[.int .i64 x, .int .i64 y] w fun e w' => e = .returned (.agg #[.int .i64 x, .int .i64 y]) ∧ Below w.heap.size w w' := by
  refine enterQ (N := 8) (C := fun _ => True) (H := []) (B := w.heap.size) (args := [_, _]) Try.func66 rfl rfl rfl (Nat.le_refl _) (Sat.nil _ _) fun Q hQ => ?_
  refine wp_seq' fun K1 hK1 => ?_
  refine wp_reg ?_
  refine ol_alloc 4 z42 rfl fun b4 => ?_
  refine ol_nil (to_k0 (fun _ _ h => h) (hK1 _ _ _ _ _ ?_))
  clear hK1
  refine wp_seq' fun K2 hK2 => ?_
  refine wp_reg ?_
  refine ol_r (r_move rfl) rfl ?_
  refine ol_r (r_move rfl) rfl ?_
  refine ol_r (r_build rfl (fun _ => bd42_0_1 _ _ _)) rfl ?_
  refine ol_store (id := 4) rfl rfl rfl rfl sz42 rfl rfl (by first | decide | exact Nat.zero_lt_succ _ | simp) ?_
  refine ol_nil (to_k0 (fun _ _ h => h) (hK2 _ _ _ _ _ ?_))
  clear hK2
  refine hQ.ret (rvs1 (rv_c (id := 4) (n := 2) rfl rfl ag42 rfl)) (fun _ _ h => h) fun w hb hs hB hkd => ?_
  exact ⟨rfl, hb⟩
theorem ptB_bd {x y : Int} (h : ptB x y = true) : (-100000000 ≤ x ∧ x ≤ 100000000) ∧ (-100000000 ≤ y ∧ y ≤ 100000000) := by unfold ptB at h; rw [Bool.and_eq_true, inB_iff, inB_iff] at h; exact h
def cellOfR (x y side : Int) : TileR × Int := if inB side 1 10000000 = false ∨ ptB x y = false then ((0, 0), 9) else (cellR x y side, 0)
end Go.Proofs.Ytjflbnbofedlkaa

/-
  More rules: an append of all of a slice to a slice of one's own.
-/

namespace Go.Proofs.Ytjflbnbofedlkaa.Hx
open Go Go.RowKit
set_option linter.unusedVariables false
set_option linter.unusedSimpArgs false
section
variable {P : Program} {N : Fr} {B : Nat} {w0 : World} {Q : Exit → Act → World → Prop} {al : AL} {H : HL} {ops rest : List Oper} {d : Nat} {ty : TypeId} {pos : String} {after : Array Edge}
theorem Sat.again {w : World} {id : Nat} {e : Ent} (hs : Sat B w H) (hr : look H id = some e) : Sat B w ((id, e) :: H) :=
  ⟨fun i f hf => hs.ok i f (by
    by_cases h : id = i
    · subst h; rw [look_cons_eq] at hf; rw [hr]; exact hf
    · rwa [look_cons_ne _ _ h] at hf), fun i j f g hij hf hg => hs.apart i j f g hij (by
    by_cases h : id = i
    · subst h; rw [look_cons_eq] at hf; rw [hr]; exact hf
    · rwa [look_cons_ne _ _ h] at hf) (by
    by_cases h : id = j
    · subst h; rw [look_cons_eq] at hg; rw [hr]; exact hg
    · rwa [look_cons_ne _ _ h] at hg)⟩
end
section
variable {P : Program} {N : Fr} {B : Nat} {w0 : World} {Q : Exit → Act → World → Prop} {Ss : List (Nat × HL)} {ops : Array Oper} {listed : Array Bool} {n : Nat} {al : AL} {H : HL} {d : Nat} {ty : TypeId} {pos : String} {after : Array Edge} {Hj : HL}
/-- A part of a slice that is only read, in free order. -/
theorem aq_slr {α : Type} {xs : List α} {a : Option Addr} {m cap : Nat} {t : TypeId} {s : Operand} {lo hi : Option Operand} {l h : Option Int} {E : Enc α} (i j : Nat) (hi' : ops[i]? = some { dst := some d, op := .slice t s lo hi none, type := ty, pos, after, guard := none }) (hs : Region.noSelect ops = true) (hf : Region.free .any ops listed i = true) (hr : (Region.ready .any ops listed).contains i = true)
    (hm : (j, Hj) ∈ Ss) (hw : (Region.waitsFor .any ops j i || Nat.ble ops.size j) = true) (hn : (Ss.map (·.1)).contains i = false) (hd : Nat.blt d N.n = true)
    (hl : Rd E B w0 a m cap xs) (h1 : ev al s = some (.slice a m cap)) (hlo : evo al lo = some l) (hhi : evo al hi = some h) (hT : Slc P t E.size) (h0 : 0 ≤ l.getD 0 ∧ l.getD 0 ≤ h.getD m ∧ h.getD m ≤ m)
    (k : ∀ a' c', Rd E B w0 a' ((h.getD m).toNat - (l.getD 0).toNat) c' ((xs.drop (l.getD 0).toNat).take ((h.getD m).toNat - (l.getD 0).toNat)) → AQ P N B w0 ops Q Ss n (listed.setIfInBounds i true) ((d, .slice a' ((h.getD m).toNat - (l.getD 0).toNat) c') :: al) H) : AQ P N B w0 ops Q Ss (n + 1) listed al H := by
  obtain ⟨a', c', h2, h3⟩ := hl.part (l := (l.getD 0).toNat) (h := (h.getD m).toNat) (by omega) (by omega)
  have hr' := r_sl (P := P) (N := N) (B := B) (w0 := w0) (H := Hj) (ty := ty) (lo := lo) (hi := hi) h1 hlo hhi hT ⟨h0.1, h0.2.1, by have := hl.room; omega⟩ hl.room.1
  rw [h2] at hr'
  exact aq_r i j hi' hs hf hr hm hw hn hd hr' (k a' c' h3)
end
end Go.Proofs.Ytjflbnbofedlkaa.Hx

/-
  Tiles put in order, by program and reference.
-/



namespace Go.Proofs.Ytjflbnbofedlkaa
open Go Go.RowKit Hx
set_option linter.unusedVariables false
set_option linter.unusedSimpArgs false
set_option maxRecDepth 8000
theorem ref5_InOrder_small (a : Option Addr) (n c : Nat) (xs : List TileR) (w : World) (h2 : n < 2) (hx : Rd encTile w.heap.size w a n c xs) :
    Calls Try.prog 63 #[.slice a n c] w fun e w' => ∃ b m k, e = .returned (.slice b m k) ∧ Fresh encTile 42 w w' b m k (sortL tlt xs) := by
  have hln := hx.len
  refine enterQ (N := 65) (C := fun _ => True) (H := []) (B := w.heap.size) (args := [_]) Try.func63 rfl rfl rfl (Nat.le_refl _) (Sat.nil _ _) fun Q hQ => ?_
  refine wp_seq' fun K1 hK1 => ?_
  refine wp_reg ?_
  refine ol_r (r_assign rfl) rfl ?_
  refine ol_nil (to_k0 (fun _ _ h => h) (hK1 _ _ _ _ _ ?_))
  clear hK1
  refine wp_seq' fun K2 hK2 => ?_
  refine wp_seq' fun K3 hK3 => ?_
  refine wp_reg ?_
  refine ol_r (r_move rfl) rfl ?_
  refine ol_r (r_len rfl sl45) rfl ?_
  refine ol_r (r_lss rfl rfl) rfl ?_
  refine ol_nil (to_k0 (fun _ _ h => h) (hK3 _ _ _ _ _ ?_))
  clear hK3
  first | refine wp_condD rfl (fun hc8 => ?_) (fun hc8 => ?_) | refine wp_condN rfl (fun hc8 => ?_) (fun hc8 => ?_) | refine wp_condNB rfl (fun hc8 => ?_) (fun hc8 => ?_) | refine wp_cond' rfl (fun hc8 => ?_) (fun hc8 => ?_)
  ·refine wp_seq' fun K4 hK4 => ?_
   refine wp_reg ?_
   refine ol_r (r_move rfl) rfl ?_
   refine ol_appendN encTile 10 rfl rfl hx rfl rw45 (by omega) rfl fun a10 c10 => ?_
   refine ol_r (r_assign rfl) rfl ?_
   refine ol_nil (to_k0 (fun _ _ h => h) (hK4 _ _ _ _ _ ?_))
   clear hK4
   refine hQ.ret (rvs1 (rv_t rfl)) (fun _ _ h => h) fun w hb hs hB hkd => ?_
   rw [← sortL_of tlt_tot (srt_small (by omega)) (List.Perm.refl xs)]
   exact ⟨_, _, _, rfl, hb, hs.ok 10 _ rfl⟩
  ·exfalso
   omega
theorem ref5_InOrder_step (N : Nat) (ih : ∀ (a : Option Addr) (n c : Nat) (xs : List TileR) (w : World), n ≤ N → Rd encTile w.heap.size w a n c xs → n ≤ 1000000 →
    Calls Try.prog 63 #[.slice a n c] w fun e w' => ∃ b m k, e = .returned (.slice b m k) ∧ Fresh encTile 42 w w' b m k (sortL tlt xs)) (a : Option Addr) (n c : Nat) (xs : List TileR) (w : World) (hN : n ≤ N + 1) (h2 : ¬n < 2) (hx : Rd encTile w.heap.size w a n c xs) (hn : n ≤ 1000000) :
    Calls Try.prog 63 #[.slice a n c] w fun e w' => ∃ b m k, e = .returned (.slice b m k) ∧ Fresh encTile 42 w w' b m k (sortL tlt xs) := by
  have hln := hx.len
  refine enterQ (N := 65) (C := fun _ => True) (H := []) (B := w.heap.size) (args := [_]) Try.func63 rfl rfl rfl (Nat.le_refl _) (Sat.nil _ _) fun Q hQ => ?_
  refine wp_seq' fun K1 hK1 => ?_
  refine wp_reg ?_
  refine ol_r (r_assign rfl) rfl ?_
  refine ol_nil (to_k0 (fun _ _ h => h) (hK1 _ _ _ _ _ ?_))
  clear hK1
  refine wp_seq' fun K2 hK2 => ?_
  refine wp_seq' fun K3 hK3 => ?_
  refine wp_reg ?_
  refine ol_r (r_move rfl) rfl ?_
  refine ol_r (r_len rfl sl45) rfl ?_
  refine ol_r (r_lss rfl rfl) rfl ?_
  refine ol_nil (to_k0 (fun _ _ h => h) (hK3 _ _ _ _ _ ?_))
  clear hK3
  first | refine wp_condD rfl (fun hc8 => ?_) (fun hc8 => ?_) | refine wp_condN rfl (fun hc8 => ?_) (fun hc8 => ?_) | refine wp_condNB rfl (fun hc8 => ?_) (fun hc8 => ?_) | refine wp_cond' rfl (fun hc8 => ?_) (fun hc8 => ?_)
  ·exfalso
   omega
  ·refine wp_skip' (to_k0 (fun _ _ h => h) (hK2 _ _ _ _ _ ?_))
   clear hK2
   refine wp_seq' fun K4 hK4 => ?_
   refine wp_rega [(999, [])] (by kernel_rfl) ⟨.inr subH_nil, trivial⟩ ?_
   refine aq_r 0 999 rfl (by kernel_rfl) (by kernel_rfl) (by kernel_rfl) (.head _) (by kernel_rfl) (by kernel_rfl) rfl (r_move rfl) ?_
   refine aq_r 1 999 rfl (by kernel_rfl) (by kernel_rfl) (by kernel_rfl) (.head _) (by kernel_rfl) (by kernel_rfl) rfl (r_move rfl) ?_
   refine aq_r 2 999 rfl (by kernel_rfl) (by kernel_rfl) (by kernel_rfl) (.head _) (by kernel_rfl) (by kernel_rfl) rfl (r_len rfl sl45) ?_
   first | refine aq_r 3 999 rfl (by kernel_rfl) (by kernel_rfl) (by kernel_rfl) (.head _) (by kernel_rfl) (by kernel_rfl) rfl (r_quo rfl rfl (by omega)) ?_ | refine aq_r 3 999 rfl (by kernel_rfl) (by kernel_rfl) (by kernel_rfl) (.head _) (by kernel_rfl) (by kernel_rfl) rfl (r_tquo rfl rfl (by omega)) ?_
   refine aq_slr 4 999 rfl (by kernel_rfl) (by kernel_rfl) (by kernel_rfl) (.head _) (by kernel_rfl) (by kernel_rfl) rfl hx rfl rfl rfl sl45 (by simp only [Option.getD_some, Option.getD_none]; omega) fun a15 c15 hl15 => ?_
   try simp only [Option.getD_some, Option.getD_none] at hl15 ⊢
   refine aq_r 6 999 rfl (by kernel_rfl) (by kernel_rfl) (by kernel_rfl) (.head _) (by kernel_rfl) (by kernel_rfl) rfl (r_move rfl) ?_
   refine aq_r 7 999 rfl (by kernel_rfl) (by kernel_rfl) (by kernel_rfl) (.head _) (by kernel_rfl) (by kernel_rfl) rfl (r_move rfl) ?_
   refine aq_r 8 999 rfl (by kernel_rfl) (by kernel_rfl) (by kernel_rfl) (.head _) (by kernel_rfl) (by kernel_rfl) rfl (r_len rfl sl45) ?_
   first | refine aq_r 9 999 rfl (by kernel_rfl) (by kernel_rfl) (by kernel_rfl) (.head _) (by kernel_rfl) (by kernel_rfl) rfl (r_quo rfl rfl (by omega)) ?_ | refine aq_r 9 999 rfl (by kernel_rfl) (by kernel_rfl) (by kernel_rfl) (.head _) (by kernel_rfl) (by kernel_rfl) rfl (r_tquo rfl rfl (by omega)) ?_
   refine aq_slr 10 999 rfl (by kernel_rfl) (by kernel_rfl) (by kernel_rfl) (.head _) (by kernel_rfl) (by kernel_rfl) rfl hx rfl rfl rfl sl45 (by simp only [Option.getD_some, Option.getD_none]; omega) fun a21 c21 hl21 => ?_
   try simp only [Option.getD_some, Option.getD_none] at hl21 ⊢
   refine aq_one (i := 5) (by kernel_rfl) rfl fun K5 hK5 => ?_
   refine ol_call rfl rfl cb63 rfl (fun w1 hb1 hs1 hB1 => ?_)
   refine Calls.mono (ih _ _ _ _ _ (by omega) (hl15.at hb1 hB1) (by omega)) ?_
   rintro e w2 ⟨a16, n16, c16, rfl, hf⟩
   have hl16 := hf.len
   obtain ⟨hh16, hc16⟩ := hf.head
   refine After.fresh (id := 16) rfl hb1 hs1 hB1 hf ?_
   clear hf hB1 hs1 hb1 w2 w1
   refine ol_nil (to_k0 (fun _ _ h => h) (hK5 _ _ ⟨.inr (by repeat' first | exact subH_nil | refine subH_same rfl ?_ | (refine subH_blk rfl (by repeat' first | exact sub_nil | refine sub_cons rfl ?_) ?_)), trivial⟩ ?_))
   clear hK5
   refine aq_one (i := 11) (by kernel_rfl) rfl fun K6 hK6 => ?_
   refine ol_call rfl rfl cb63 rfl (fun w1 hb1 hs1 hB1 => ?_)
   refine Calls.mono (ih _ _ _ _ _ (by omega) (hl21.at hb1 hB1) (by omega)) ?_
   rintro e w2 ⟨a22, n22, c22, rfl, hf⟩
   have hl22 := hf.len
   obtain ⟨hh22, hc22⟩ := hf.head
   refine After.fresh (id := 22) rfl hb1 hs1 hB1 hf ?_
   clear hf hB1 hs1 hb1 w2 w1
   obtain ⟨P1, hP1⟩ : ∃ P, P = (xs.drop (Int.toNat 0)).take (((n : Int) / 2).toNat - Int.toNat 0) := ⟨_, rfl⟩
   obtain ⟨P2, hP2⟩ : ∃ P, P = (xs.drop ((n : Int) / 2).toNat).take ((n : Int).toNat - ((n : Int) / 2).toNat) := ⟨_, rfl⟩
   have hcat : P1 ++ P2 = xs := by
     rw [hP1, hP2, List.take_of_length_le (l := xs.drop ((n : Int) / 2).toNat) (by rw [List.length_drop]; omega)]
     show List.take ((n : Int) / 2).toNat xs ++ _ = _
     exact List.take_append_drop _ _
   rw [← hP1] at hl16
   rw [← hP2] at hl22
   rw [← hP1, ← hP2]
   obtain ⟨L1, hL1⟩ : ∃ L, L = sortL tlt P1 := ⟨_, rfl⟩
   obtain ⟨L2, hL2⟩ : ∃ L, L = sortL tlt P2 := ⟨_, rfl⟩
   have hS1 : Srt tlt L1 := by rw [hL1]; exact sortL_srt tlt_tot _
   have hS2 : Srt tlt L2 := by rw [hL2]; exact sortL_srt tlt_tot _
   have hn12 : n16 + n22 = n := by
     rw [← hl16, ← hl22, sortL_len, sortL_len, ← List.length_append, hcat, hln]
   rw [← hL1] at hl16
   rw [← hL2] at hl22
   rw [← hL1, ← hL2]
   clear hP1 hP2
   refine ol_nil (to_k0 (fun _ _ h => h) (hK6 _ _ ⟨.inr (by repeat' first | exact subH_nil | refine subH_same rfl ?_ | (refine subH_blk rfl (by repeat' first | exact sub_nil | refine sub_cons rfl ?_) ?_)), trivial⟩ ?_))
   clear hK6
   refine aq_r 12 999 rfl (by kernel_rfl) (by kernel_rfl) (by kernel_rfl) (.head _) (by kernel_rfl) (by kernel_rfl) rfl (r_assign rfl) ?_
   refine aq_r 13 999 rfl (by kernel_rfl) (by kernel_rfl) (by kernel_rfl) (.head _) (by kernel_rfl) (by kernel_rfl) rfl (r_assign rfl) ?_
   refine aq_done (by kernel_rfl) ?_
   refine (to_k0 (fun _ _ h => h) (hK4 _ _ _ _ _ ?_))
   clear hK4
   refine wp_seq' fun K7 hK7 => ?_
   refine wp_reg ?_
   refine ol_nilrow 5 42 2 ?_
   refine ol_r (r_assign rfl) rfl ?_
   refine ol_nil (to_k0 (fun _ _ h => h) (hK7 _ _ _ _ _ ?_))
   clear hK7
   refine wp_seq' fun K8 hK8 => ?_
   refine wp_block' ?_
   apply wp_loopM (σ := Nat × Nat × Option Addr × Option Addr × Option Addr × Nat × Nat × List TileR) (fun s => s.1 ≤ n16 ∧ s.2.1 ≤ n22 ∧ TlP a16 s.2.2.1 s.1 n16 2 ∧ TlP a22 s.2.2.2.1 s.2.1 n22 2 ∧ s.2.2.2.2.2.1 = s.1 + s.2.1 ∧ s.2.2.2.2.2.2.2.length = s.2.2.2.2.2.1 ∧ MergeI tlt L1 L2 s.2.2.2.2.2.2.2 (L1.drop s.1) (L2.drop s.2.1)) (fun s => [(3, .slice s.2.2.1 (n16 - s.1) (c16 - s.1)), (4, .slice s.2.2.2.1 (n22 - s.2.1) (c22 - s.2.1)), (5, .slice s.2.2.2.2.1 s.2.2.2.2.2.1 s.2.2.2.2.2.2.1)]) [(2, _)] (fun s => [(5, .row s.2.2.2.2.1 s.2.2.2.2.2.1 s.2.2.2.2.2.2.1 (encTile.enc s.2.2.2.2.2.2.2) 42 2)]) [(16, _), (22, _)] (fun s => n16 + n22 - (s.1 + s.2.1)) ((0, 0, a16, a22, none, 0, 0, []))
   ·try dsimp only
    exact ⟨Nat.zero_le _, Nat.zero_le _, TlP.zero hh16, TlP.zero hh22, rfl, rfl, MergeI.init hS1 hS2⟩
   ·exact (sub_cons rfl (sub_cons rfl (sub_cons rfl sub_nil)))
   ·exact (sub_cons rfl sub_nil)
   ·exact (subH_row rfl (by first | (dsimp only; rfl; done) | (rfl; done) | (dsimp only; done)) subH_nil)
   ·exact (subH_same rfl (subH_same rfl subH_nil))
   ·rintro ⟨i, j, pa, pb, oa, m, oc, zs⟩ ⟨hi, hj, hpa, hpb, hmm, hzl, hm⟩
    dsimp only at hi hj hpa hpb hmm hzl hm ⊢
    intro K9 hK9
    refine wp_seq' fun K10 hK10 => ?_
    apply wp_seq_cutM (σ := Bool) (fun s => s = true ↔ i < n16 ∨ j < n22) (fun s => [(30, .bool s)]) [(2, _), (3, _), (4, _), (5, _)] (fun s => []) [(5, _), (16, _), (22, _)]
    ·exact (sub_cons rfl (sub_cons rfl (sub_cons rfl (sub_cons rfl sub_nil))))
    ·exact (subH_same rfl (subH_same rfl (subH_same rfl subH_nil)))
    ·intro K11 hK11
     refine wp_reg ?_
     refine ol_r (r_move rfl) rfl ?_
     refine ol_r (r_len rfl sl45) rfl ?_
     refine ol_r (r_gtr rfl rfl) rfl ?_
     refine ol_r (r_move rfl) rfl ?_
     refine ol_split (d := 26) rfl (fun hs26 => ?_) (fun hs26 => ?_)
     ·have phs26 := hs26; try simp only [decide_eq_true_eq, decide_eq_false_iff_not, Bool.not_eq_true', Bool.not_eq_false', Bool.not_true, Bool.not_false] at phs26
      refine ol_s rfl rfl hs26 rfl ?_
      refine ol_s rfl rfl hs26 rfl ?_
      refine ol_s rfl rfl hs26 rfl ?_
      refine ol_r (r_pickT rfl hs26 rfl) rfl ?_
      refine ol_nil (to_k0 (fun _ _ h => h) (hK11 (_) _ _ ?_ (sub_cons rfl sub_nil) (sub_cons rfl (sub_cons rfl (sub_cons rfl (sub_cons rfl sub_nil)))) subH_nil (subH_same rfl (subH_same rfl (subH_same rfl subH_nil)))))
      try dsimp only
      first
      | (rw [decide_eq_true_eq]; omega)
      | (simp; omega)
     ·have phs26 := hs26; try simp only [decide_eq_true_eq, decide_eq_false_iff_not, Bool.not_eq_true', Bool.not_eq_false', Bool.not_true, Bool.not_false] at phs26
      refine ol_g rfl rfl hs26 ?_
      refine ol_r (r_move rfl) rfl ?_
      refine ol_g rfl rfl hs26 ?_
      refine ol_r (r_len rfl sl45) rfl ?_
      refine ol_g rfl rfl hs26 ?_
      refine ol_r (r_gtr rfl rfl) rfl ?_
      refine ol_r (r_pickF rfl hs26 rfl) rfl ?_
      refine ol_nil (to_k0 (fun _ _ h => h) (hK11 (_) _ _ ?_ (sub_cons rfl sub_nil) (sub_cons rfl (sub_cons rfl (sub_cons rfl (sub_cons rfl sub_nil)))) subH_nil (subH_same rfl (subH_same rfl (subH_same rfl subH_nil)))))
      try dsimp only
      first
      | (rw [decide_eq_true_eq]; omega)
      | (simp; omega)
    ·rintro bc hbc
     first | refine wp_condD rfl (fun hc30 => ?_) (fun hc30 => ?_) | refine wp_condN rfl (fun hc30 => ?_) (fun hc30 => ?_) | refine wp_condNB rfl (fun hc30 => ?_) (fun hc30 => ?_) | refine wp_cond' rfl (fun hc30 => ?_) (fun hc30 => ?_)
     ·refine wp_skip' (to_k0 (fun _ _ h => h) (hK10 _ _ _ _ _ ?_))
      clear hK10
      refine wp_block' ?_
      apply wp_seq_cutM (σ := Bool) (fun s => MrgC tlt L1 L2 i j s) (fun s => [(47, .bool s)]) [(2, _), (3, _), (4, _), (5, _)] (fun s => []) [(5, _), (16, _), (22, _)]
      ·exact (sub_cons rfl (sub_cons rfl (sub_cons rfl (sub_cons rfl sub_nil))))
      ·exact (subH_same rfl (subH_same rfl (subH_same rfl subH_nil)))
      ·intro K12 hK12
       refine wp_regq (by kernel_rfl) (by kernel_rfl) ?_
       refine ql_r (r_move rfl) rfl ?_
       refine ql_r (r_len rfl sl45) rfl ?_
       refine ql_r (r_eql rfl rfl) rfl ?_
       refine ql_r (r_move rfl) rfl ?_
       refine ql_split (d := 34) rfl (fun hs34 => ?_) (fun hs34 => ?_)
       ·have phs34 := hs34; try simp only [decide_eq_true_eq, decide_eq_false_iff_not, Bool.not_eq_true', Bool.not_eq_false', Bool.not_true, Bool.not_false] at phs34
        refine ql_s rfl rfl hs34 rfl ?_
        refine ql_s rfl rfl hs34 rfl ?_
        refine ql_s rfl rfl hs34 rfl ?_
        refine ql_s rfl rfl hs34 rfl ?_
        refine ql_u rfl rfl rfl ?_
        refine ql_u rfl rfl rfl ?_
        refine ql_u rfl rfl rfl ?_
        refine ql_u rfl rfl rfl ?_
        refine ql_u rfl rfl rfl ?_
        refine ql_u rfl rfl rfl ?_
        refine ql_u rfl rfl rfl ?_
        refine ql_s rfl rfl hs34 rfl ?_
        refine ql_r (r_pickT rfl hs34 rfl) rfl ?_
        refine ql_nil (to_k0 (fun _ _ h => h) (hK12 (_) _ _ ?_ (sub_cons rfl sub_nil) (sub_cons rfl (sub_cons rfl (sub_cons rfl (sub_cons rfl sub_nil)))) subH_nil (subH_same rfl (subH_same rfl (subH_same rfl subH_nil)))))
        try dsimp only
        first
        | exact mrg_B tlt_tot hx40 hx43
        | (have := hbc.1 hc30; refine mrg_A ?_ ?_ <;> omega)
        | (have := hbc.1 hc30; refine mrg_C ?_ ?_ <;> omega)
        | (have := hbc.1 hc30; dsimp only; split <;> first | (refine mrg_A ?_ ?_ <;> omega) | (refine mrg_C ?_ ?_ <;> omega))
       ·have phs34 := hs34; try simp only [decide_eq_true_eq, decide_eq_false_iff_not, Bool.not_eq_true', Bool.not_eq_false', Bool.not_true, Bool.not_false] at phs34
        refine ql_g rfl rfl hs34 ?_
        refine ql_r (r_move rfl) rfl ?_
        refine ql_g rfl rfl hs34 ?_
        refine ql_r (r_len rfl sl45) rfl ?_
        refine ql_g rfl rfl hs34 ?_
        refine ql_r (r_gtr rfl rfl) rfl ?_
        refine ql_g rfl rfl hs34 ?_
        refine ql_r (r_move rfl) rfl ?_
        refine ql_split (d := 38) rfl (fun hs38 => ?_) (fun hs38 => ?_)
        ·have phs38 := hs38; try simp only [decide_eq_true_eq, decide_eq_false_iff_not, Bool.not_eq_true', Bool.not_eq_false', Bool.not_true, Bool.not_false] at phs38
         refine ql_g rfl rfl hs38 ?_
         refine ql_r (r_move rfl) rfl ?_
         refine ql_g rfl rfl hs38 ?_
         refine ql_ixT (id := 16) i encTile _ rfl rfl rfl rfl sl45 hpa rfl (by omega) (by omega) rfl fun x40 hx40 => ?_
         try simp only [Int.toNat_natCast, Int.toNat_zero, Nat.add_zero] at hx40
         refine ql_g rfl rfl hs38 ?_
         refine ql_r (r_ldw rfl (fun w1 hb1 hs1 hB1 => ld_own (id := 16) hs1 rfl rfl ty42 hx40)) rfl ?_
         refine ql_g rfl rfl hs38 ?_
         refine ql_r (r_move rfl) rfl ?_
         refine ql_g rfl rfl hs38 ?_
         refine ql_ixT (id := 22) j encTile _ rfl rfl rfl rfl sl45 hpb rfl (by omega) (by omega) rfl fun x43 hx43 => ?_
         try simp only [Int.toNat_natCast, Int.toNat_zero, Nat.add_zero] at hx43
         refine ql_g rfl rfl hs38 ?_
         refine ql_r (r_ldw rfl (fun w1 hb1 hs1 hB1 => ld_own (id := 22) hs1 rfl rfl ty42 hx43)) rfl ?_
         refine ql_g rfl rfl hs38 ?_
         refine ql_call rfl rfl cb73 rfl (fun w1 hb1 hs1 hB1 => ref5_comes _ _ _) ?_
         refine ql_g rfl rfl hs34 ?_
         refine ql_r (r_pickT rfl hs38 rfl) rfl ?_
         refine ql_r (r_pickF rfl hs34 rfl) rfl ?_
         refine ql_nil (to_k0 (fun _ _ h => h) (hK12 (_) _ _ ?_ (sub_cons rfl sub_nil) (sub_cons rfl (sub_cons rfl (sub_cons rfl (sub_cons rfl sub_nil)))) subH_nil (subH_same rfl (subH_same rfl (subH_same rfl subH_nil)))))
         try dsimp only
         first
         | exact mrg_B tlt_tot hx40 hx43
         | (have := hbc.1 hc30; refine mrg_A ?_ ?_ <;> omega)
         | (have := hbc.1 hc30; refine mrg_C ?_ ?_ <;> omega)
         | (have := hbc.1 hc30; dsimp only; split <;> first | (refine mrg_A ?_ ?_ <;> omega) | (refine mrg_C ?_ ?_ <;> omega))
        ·have phs38 := hs38; try simp only [decide_eq_true_eq, decide_eq_false_iff_not, Bool.not_eq_true', Bool.not_eq_false', Bool.not_true, Bool.not_false] at phs38
         refine ql_s rfl rfl hs38 rfl ?_
         refine ql_s rfl rfl hs38 rfl ?_
         refine ql_s rfl rfl hs38 rfl ?_
         refine ql_s rfl rfl hs38 rfl ?_
         refine ql_s rfl rfl hs38 rfl ?_
         refine ql_s rfl rfl hs38 rfl ?_
         refine ql_s rfl rfl hs38 rfl ?_
         refine ql_g rfl rfl hs34 ?_
         refine ql_r (r_pickF rfl hs38 rfl) rfl ?_
         refine ql_r (r_pickF rfl hs34 rfl) rfl ?_
         refine ql_nil (to_k0 (fun _ _ h => h) (hK12 (_) _ _ ?_ (sub_cons rfl sub_nil) (sub_cons rfl (sub_cons rfl (sub_cons rfl (sub_cons rfl sub_nil)))) subH_nil (subH_same rfl (subH_same rfl (subH_same rfl subH_nil)))))
         try dsimp only
         first
         | exact mrg_B tlt_tot hx40 hx43
         | (have := hbc.1 hc30; refine mrg_A ?_ ?_ <;> omega)
         | (have := hbc.1 hc30; refine mrg_C ?_ ?_ <;> omega)
         | (have := hbc.1 hc30; dsimp only; split <;> first | (refine mrg_A ?_ ?_ <;> omega) | (refine mrg_C ?_ ?_ <;> omega))
      ·rintro bd hbd
       first | refine wp_condD rfl (fun hc47 => ?_) (fun hc47 => ?_) | refine wp_condN rfl (fun hc47 => ?_) (fun hc47 => ?_) | refine wp_condNB rfl (fun hc47 => ?_) (fun hc47 => ?_) | refine wp_cond' rfl (fun hc47 => ?_) (fun hc47 => ?_)
       ·refine wp_seq' fun K13 hK13 => ?_
        refine wp_reg ?_
        subst hc47
        have hil : i < n16 := by obtain ⟨x, hx, _⟩ := hbd.1 rfl; have := (List.getElem?_eq_some_iff.1 hx).1; omega
        refine ol_r (r_move rfl) rfl ?_
        refine ol_r (r_move rfl) rfl ?_
        refine ol_ixT (id := 16) i encTile _ rfl rfl rfl rfl sl45 hpa rfl (by omega) (by omega) rfl fun x50 hx50 => ?_
        try simp only [Int.toNat_natCast, Int.toNat_zero, Nat.add_zero] at hx50
        refine ol_r (r_ldw rfl (fun w1 hb1 hs1 hB1 => ld_own (id := 16) hs1 rfl rfl ty42 hx50)) rfl ?_
        refine ol_bs1 52 rfl rfl rw45 rfl rfl rfl fun a52 => ?_
        refine ol_append1 (id := 5) (id2 := 52) rfl rfl rfl rfl rfl rw45 (by omega) rfl fun a53 c53 => ?_
        refine ol_r (r_assign rfl) rfl ?_
        refine ol_nil (to_k0 (fun _ _ h => h) (hK13 _ _ _ _ _ ?_))
        clear hK13
        refine wp_reg ?_
        refine ol_r (r_move rfl) rfl ?_
        refine ol_r (r_slN rfl rfl sl45 (by omega)) rfl ?_
        refine ol_r (r_assign rfl) rfl ?_
        refine ol_nil (to_k0 (fun _ _ h => h) (hK9 ((i + 1, j, (if c16 - i = 1 then pa else Option.map (fun x => x.add (1 * 2)) pa), pb, a53, m + 1, c53, zs ++ [x50])) _ _ ?_ ?_ (sub_cons (by first | rfl | (first | rfl | (rw [Nat.sub_add_eq, Nat.sub_add_eq]; rfl))) (sub_cons (by first | rfl | (first | rfl | (rw [Nat.sub_add_eq, Nat.sub_add_eq]; rfl))) (sub_cons (by first | rfl | (first | rfl | (rw [Nat.sub_add_eq, Nat.sub_add_eq]; rfl))) sub_nil))) (sub_cons rfl sub_nil) (by exact (subH_row rfl (by first | (dsimp only; first | rfl | (rw [Enc.enc_append]; rfl); done) | (first | rfl | (rw [Enc.enc_append]; rfl); done) | (dsimp only; done)) subH_nil)) (subH_same rfl (subH_same rfl subH_nil))))
        ·try dsimp only
         exact ⟨by omega, hj, hpa.next hh16 hc16.1, hpb, by omega, by rw [List.length_append, hzl, List.length_singleton], hm.stepL tlt_tot hbd hx50⟩
        ·try dsimp only
         omega
       ·refine wp_seq' fun K14 hK14 => ?_
        refine wp_reg ?_
        have hc47 : bd = false := by simpa using hc47
        subst hc47
        have hjl : j < n22 := by obtain ⟨x, hx, _⟩ := hbd.2 rfl; have := (List.getElem?_eq_some_iff.1 hx).1; omega
        refine ol_r (r_move rfl) rfl ?_
        refine ol_r (r_move rfl) rfl ?_
        refine ol_ixT (id := 22) j encTile _ rfl rfl rfl rfl sl45 hpb rfl (by omega) (by omega) rfl fun x58 hx58 => ?_
        try simp only [Int.toNat_natCast, Int.toNat_zero, Nat.add_zero] at hx58
        refine ol_r (r_ldw rfl (fun w1 hb1 hs1 hB1 => ld_own (id := 22) hs1 rfl rfl ty42 hx58)) rfl ?_
        refine ol_bs1 60 rfl rfl rw45 rfl rfl rfl fun a60 => ?_
        refine ol_append1 (id := 5) (id2 := 60) rfl rfl rfl rfl rfl rw45 (by omega) rfl fun a61 c61 => ?_
        refine ol_r (r_assign rfl) rfl ?_
        refine ol_nil (to_k0 (fun _ _ h => h) (hK14 _ _ _ _ _ ?_))
        clear hK14
        refine wp_reg ?_
        refine ol_r (r_move rfl) rfl ?_
        refine ol_r (r_slN rfl rfl sl45 (by omega)) rfl ?_
        refine ol_r (r_assign rfl) rfl ?_
        refine ol_nil (to_k0 (fun _ _ h => h) (hK9 ((i, j + 1, pa, (if c22 - j = 1 then pb else Option.map (fun x => x.add (1 * 2)) pb), a61, m + 1, c61, zs ++ [x58])) _ _ ?_ ?_ (sub_cons (by first | rfl | (first | rfl | (rw [Nat.sub_add_eq, Nat.sub_add_eq]; rfl))) (sub_cons (by first | rfl | (first | rfl | (rw [Nat.sub_add_eq, Nat.sub_add_eq]; rfl))) (sub_cons (by first | rfl | (first | rfl | (rw [Nat.sub_add_eq, Nat.sub_add_eq]; rfl))) sub_nil))) (sub_cons rfl sub_nil) (by exact (subH_row rfl (by first | (dsimp only; first | rfl | (rw [Enc.enc_append]; rfl); done) | (first | rfl | (rw [Enc.enc_append]; rfl); done) | (dsimp only; done)) subH_nil)) (subH_same rfl (subH_same rfl subH_nil))))
        ·try dsimp only
         exact ⟨hi, by omega, hpa, hpb.next hh22 hc22.1, by omega, by rw [List.length_append, hzl, List.length_singleton], hm.stepR tlt_tot hbd hx58⟩
        ·try dsimp only
         omega
     ·refine wp_exit' (to_k0 (fun _ _ h => h) (hK8 _ _ _ _ _ ?_))
      clear hK8
      refine wp_seq' fun K15 hK15 => ?_
      refine wp_reg ?_
      refine ol_r (r_move rfl) rfl ?_
      refine ol_r (r_assign rfl) rfl ?_
      refine ol_nil (to_k0 (fun _ _ h => h) (hK15 _ _ _ _ _ ?_))
      clear hK15
      refine hQ.ret (rvs1 (rv_t rfl)) (fun _ _ h => h) fun w hb hs hB hkd => ?_
      have hno : ¬(i < n16 ∨ j < n22) := fun h => by rw [hc30] at hbc; exact Bool.noConfusion (hbc.2 h)
      have he := merge_end tlt_tot hcat hL1 hL2 hm (by omega) (by omega)
      rw [← he]
      exact ⟨_, _, _, rfl, hb, hs.ok 5 _ rfl⟩
theorem ref5_InOrder : ∀ (N : Nat) (a : Option Addr) (n c : Nat) (xs : List TileR) (w : World), n ≤ N → Rd encTile w.heap.size w a n c xs → n ≤ 1000000 →
    Calls Try.prog 63 #[.slice a n c] w fun e w' => ∃ b m k, e = .returned (.slice b m k) ∧ Fresh encTile 42 w w' b m k (sortL tlt xs)
  | 0, a, n, c, xs, w, hN, hx, hn => ref5_InOrder_small a n c xs w (by omega) hx
  | N + 1, a, n, c, xs, w, hN, hx, hn => by
    by_cases h2 : n < 2
    · exact ref5_InOrder_small a n c xs w h2 hx
    · exact ref5_InOrder_step N (fun a n c xs w h1 h2 h3 => ref5_InOrder N a n c xs w h1 h2 h3) a n c xs w hN h2 hx hn
end Go.Proofs.Ytjflbnbofedlkaa
