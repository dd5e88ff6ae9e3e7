/-
  Crossings of program and reference, whole; MatchCrossingsMatchSpec.
-/
import Derived.Test.YtbbhcffkleplnaaCross2M
import Derived.Test.YtbbhcffkleplnaaStab
import Derived.Test.YtbbhcffkleplnaaDiv
import Derived.Test.YtbbhcffkleplnaaToldA
import Derived.Test.YtbbhcffkleplnaaHg
namespace Go.Proofs.Ytbbhcffkleplnaa
open Go Go.RowKit Hx
set_option linter.unusedVariables false
set_option linter.unusedSimpArgs false
set_option maxRecDepth 8000
theorem cmp_OrI (a : Option Addr) (n c : Nat) (xs : List Int) (w : World) (hl : Rd encI w.heap.size w a n c xs) :
    Calls Try.prog 102 #[.slice a n c] w fun e w' => e = .returned (.int .i64 (orL xs)) ∧ Below w.heap.size w w' := by
  have hn := hl.len
  have hf := hl.fit
  refine enterQ (N := 18) (C := fun _ => True) (H := []) (B := w.heap.size) (args := [_]) Try.func102 rfl rfl rfl (Nat.le_refl _) (Sat.nil _ _) fun Q hQ => ?_
  refine wp_seq' fun K1 hK1 => ?_
  refine wp_reg ?_
  refine ol_r (r_assign rfl) rfl ?_
  refine ol_nil (to_k0 (fun _ _ h => h) (hK1 _ _ _ _ _ ?_))
  clear hK1
  refine wp_seq' fun K2 hK2 => ?_
  refine wp_reg ?_
  refine ol_r (r_assign rfl) rfl ?_
  refine ol_nil (to_k0 (fun _ _ h => h) (hK2 _ _ _ _ _ ?_))
  clear hK2
  refine wp_seq' fun K3 hK3 => ?_
  refine wp_seq' fun K4 hK4 => ?_
  refine wp_reg ?_
  refine ol_r (r_move rfl) rfl ?_
  refine ol_r (r_len rfl sl47) rfl ?_
  refine ol_r (r_move rfl) rfl ?_
  refine ol_nil (to_k0 (fun _ _ h => h) (hK4 _ _ _ _ _ ?_))
  clear hK4
  refine wp_block' ?_
  apply wp_loopM (σ := Nat) (fun s => s ≤ n ∧ ∀ x ∈ xs.take s, x = 0) (fun s => [(8, .int .i64 s)]) [(3, _), (6, _), (7, _)] (fun s => []) [] (fun s => n - s) (0)
  ·try dsimp only
   exact ⟨Nat.zero_le _, fun x hx => by simp at hx⟩
  ·exact (sub_cons rfl sub_nil)
  ·exact (sub_cons rfl (sub_cons rfl (sub_cons rfl sub_nil)))
  ·exact subH_nil
  ·exact subH_nil
  ·rintro k ⟨hk, hP⟩
   intro K5 hK5
   refine wp_seq' fun K6 hK6 => ?_
   refine wp_reg ?_
   refine ol_r (r_lss rfl rfl) rfl ?_
   refine ol_nil (to_k0 (fun _ _ h => h) (hK6 _ _ _ _ _ ?_))
   clear hK6
   refine wp_seq' fun K7 hK7 => ?_
   refine wp_condD rfl (fun hc9 => ?_) (fun hc9 => ?_)
   ·refine wp_skip' (to_k0 (fun _ _ h => h) (hK7 _ _ _ _ _ ?_))
    clear hK7
    refine wp_seq' fun K8 hK8 => ?_
    refine wp_block' ?_
    refine wp_seq' fun K9 hK9 => ?_
    refine wp_reg ?_
    refine ol_ixr hl rfl rfl sl47 (by omega) rfl fun x10 hx10 => ?_
    try simp only [Int.toNat_natCast] at hx10
    refine ol_r (r_ldw rfl (fun w1 hb1 hs1 hB1 => show Loads _ _ _ _ (.int .i64 x10) from Rd.loads hl ty3 hx10 hb1)) rfl ?_
    refine ol_r (r_assign rfl) rfl ?_
    refine ol_nil (to_k0 (fun _ _ h => h) (hK9 _ _ _ _ _ ?_))
    clear hK9
    refine wp_seq' fun K10 hK10 => ?_
    refine wp_reg ?_
    refine ol_r (r_move rfl) rfl ?_
    refine ol_r (r_move rfl) rfl ?_
    refine ol_r (r_neq rfl rfl) rfl ?_
    refine ol_nil (to_k0 (fun _ _ h => h) (hK10 _ _ _ _ _ ?_))
    clear hK10
    refine wp_condD rfl (fun hc14 => ?_) (fun hc14 => ?_)
    ·refine wp_seq' fun K11 hK11 => ?_
     refine wp_reg ?_
     refine ol_r (r_move rfl) rfl ?_
     refine ol_r (r_assign rfl) rfl ?_
     refine ol_nil (to_k0 (fun _ _ h => h) (hK11 _ _ _ _ _ ?_))
     clear hK11
     refine hQ.ret (rvs1 (rv_t rfl)) (fun _ _ h => h) fun w hb hs hB hkd => ?_
     rw [orL_next hP, drop_cons_get hx10, orL, if_pos hc14]
     exact ⟨rfl, hb⟩
    ·refine wp_skip' (to_k0 (fun _ _ h => h) (hK8 _ _ _ _ _ ?_))
     clear hK8
     refine wp_reg ?_
     refine ol_r (r_add rfl rfl (by omega)) rfl ?_
     refine ol_r (r_move rfl) rfl ?_
     refine ol_nil (to_k0 (fun _ _ h => h) (hK5 (k + 1) _ _ ?_ ?_ (sub_cons rfl sub_nil) (sub_cons rfl (sub_cons rfl (sub_cons rfl sub_nil))) (by exact subH_nil) subH_nil))
     ·try dsimp only
      refine ⟨by omega, fun x hx => ?_⟩
      rw [take_succ_get hx10] at hx
      rcases List.mem_append.1 hx with h | h
      · exact hP x h
      · simp at h; omega
     ·try dsimp only
      omega
   ·refine wp_exit' (to_k0 (fun _ _ h => h) (hK3 _ _ _ _ _ ?_))
    clear hK3
    refine wp_seq' fun K12 hK12 => ?_
    refine wp_reg ?_
    refine ol_r (r_move rfl) rfl ?_
    refine ol_r (r_assign rfl) rfl ?_
    refine ol_nil (to_k0 (fun _ _ h => h) (hK12 _ _ _ _ _ ?_))
    clear hK12
    refine hQ.ret (rvs1 (rv_t rfl)) (fun _ _ h => h) fun w hb hs hB hkd => ?_
    rw [orL_next hP, List.drop_eq_nil_of_le (by omega)]
    exact ⟨rfl, hb⟩
theorem or_two (p q : Int) : orL [cmpI (p / 18446744073709551616) (q / 18446744073709551616), cmpI (p % 18446744073709551616) (q % 18446744073709551616)] = cmpI p q := by
  unfold orL orL orL cmpI
  repeat' split
  all_goals first | rfl | (exfalso; omega) | omega
def PartOk (x : PartR) : Prop := (0 ≤ x.num ∧ x.num ≤ 200000000000000000) ∧ (1 ≤ x.den ∧ x.den ≤ 200000000000000000)
def cfP (x y : PartR) : Int := cmpI (x.num * y.den) (y.num * x.den)
theorem match_compare (x y : PartR) (w : World) (hx : PartOk x) (hy : PartOk y) :
    Calls Try.prog 75 #[encPart.val x, encPart.val y] w fun e w' => e = .returned (.int .i64 (cfP x y)) ∧ Below w.heap.size w w' := by
  obtain ⟨⟨x1, x2⟩, x3, x4⟩ := hx
  obtain ⟨⟨y1, y2⟩, y3, y4⟩ := hy
  have hw : ∀ m : Int, 0 ≤ m ∧ m ≤ 200000000000000000 → IntKind.u64.wrap m = m := fun m h => wrap_u64 (by omega)
  refine enterQ (N := 37) (C := fun _ => True) (H := []) (B := w.heap.size) (args := [_, _]) Try.func75 rfl rfl rfl (Nat.le_refl _) (Sat.nil _ _) fun Q hQ => ?_
  refine wp_seq' fun K1 hK1 => ?_
  refine wp_reg ?_
  refine ol_box 2 rfl rfl rfl fun b2 => ?_
  refine ol_box 3 rfl rfl rfl fun b3 => ?_
  refine ol_r (r_assign rfl) rfl ?_
  refine ol_nil (to_k0 (fun _ _ h => h) (hK1 _ _ _ _ _ ?_))
  clear hK1
  refine wp_seq' fun K2 hK2 => ?_
  refine wp_reg ?_
  refine ol_r (r_fa (o' := 0) rfl fl112_0 rfl) rfl ?_
  refine ol_r (r_ld (id := 2) rfl rfl rfl sc3) rfl ?_
  refine ol_r (r_conv (k2 := .u64) rfl (by kernel_rfl) (by kernel_rfl) (wrap_u64 (by omega))) rfl ?_
  refine ol_r (r_fa (o' := 1) rfl fl112_1 rfl) rfl ?_
  refine ol_r (r_ld (id := 3) rfl rfl rfl sc3) rfl ?_
  refine ol_r (r_conv (k2 := .u64) rfl (by kernel_rfl) (by kernel_rfl) (wrap_u64 (by omega))) rfl ?_
  refine ol_call rfl rfl cb78 rfl (fun w1 hb1 hs1 hB1 => Calls.mono (bits_MulI x.num y.den _ (by omega) (by omega)) ?_)
  rintro e w2 ⟨rfl, hb2⟩
  refine After.below rfl hb1 hs1 hB1 hb2 ?_
  clear hb2 hB1 hs1 hb1 w2 w1
  refine ol_r (r_move rfl) rfl ?_
  refine ol_r (r_extract rfl rfl) rfl ?_
  refine ol_r (r_extract rfl rfl) rfl ?_
  refine ol_r (r_assign rfl) rfl ?_
  refine ol_r (r_assign rfl) rfl ?_
  refine ol_nil (to_k0 (fun _ _ h => h) (hK2 _ _ _ _ _ ?_))
  clear hK2
  refine wp_seq' fun K3 hK3 => ?_
  refine wp_reg ?_
  refine ol_r (r_fa (o' := 0) rfl fl112_0 rfl) rfl ?_
  refine ol_r (r_ld (id := 3) rfl rfl rfl sc3) rfl ?_
  refine ol_r (r_conv (k2 := .u64) rfl (by kernel_rfl) (by kernel_rfl) (wrap_u64 (by omega))) rfl ?_
  refine ol_r (r_fa (o' := 1) rfl fl112_1 rfl) rfl ?_
  refine ol_r (r_ld (id := 2) rfl rfl rfl sc3) rfl ?_
  refine ol_r (r_conv (k2 := .u64) rfl (by kernel_rfl) (by kernel_rfl) (wrap_u64 (by omega))) rfl ?_
  refine ol_call rfl rfl cb78 rfl (fun w1 hb1 hs1 hB1 => Calls.mono (bits_MulI y.num x.den _ (by omega) (by omega)) ?_)
  rintro e w2 ⟨rfl, hb2⟩
  refine After.below rfl hb1 hs1 hB1 hb2 ?_
  clear hb2 hB1 hs1 hb1 w2 w1
  refine ol_r (r_move rfl) rfl ?_
  refine ol_r (r_extract rfl rfl) rfl ?_
  refine ol_r (r_extract rfl rfl) rfl ?_
  refine ol_r (r_assign rfl) rfl ?_
  refine ol_r (r_assign rfl) rfl ?_
  refine ol_nil (to_k0 (fun _ _ h => h) (hK3 _ _ _ _ _ ?_))
  clear hK3
  refine wp_seq' fun K4 hK4 => ?_
  refine wp_reg ?_
  refine ol_r (r_move rfl) rfl ?_
  refine ol_r (r_move rfl) rfl ?_
  refine ol_call rfl rfl cb93 rfl (fun w1 hb1 hs1 hB1 => Calls.mono (cmp_Compareu _ _ _) ?_)
  rintro e w2 ⟨rfl, hb2⟩
  refine After.below rfl hb1 hs1 hB1 hb2 ?_
  clear hb2 hB1 hs1 hb1 w2 w1
  refine ol_r (r_move rfl) rfl ?_
  refine ol_r (r_move rfl) rfl ?_
  refine ol_call rfl rfl cb93 rfl (fun w1 hb1 hs1 hB1 => Calls.mono (cmp_Compareu _ _ _) ?_)
  rintro e w2 ⟨rfl, hb2⟩
  refine After.below rfl hb1 hs1 hB1 hb2 ?_
  clear hb2 hB1 hs1 hb1 w2 w1
  refine ol_bsN 35 rfl rw47 rfl rfl (fun _ => by kernel_rfl) rfl fun a35 => ?_
  refine ol_call rfl rfl cb102 rfl (fun w1 hb1 hs1 hB1 => Calls.mono (cmp_OrI _ _ _ [cmpI (x.num * y.den / 18446744073709551616) (y.num * x.den / 18446744073709551616), cmpI (x.num * y.den % 18446744073709551616) (y.num * x.den % 18446744073709551616)] _ (Sat.rd hs1 (E := encI) (xs := [_, _]) (id := 35) rfl rfl)) ?_)
  rintro e w2 ⟨rfl, hb2⟩
  refine After.below rfl hb1 hs1 hB1 hb2 ?_
  clear hb2 hB1 hs1 hb1 w2 w1
  refine ol_r (r_assign rfl) rfl ?_
  refine ol_nil (to_k0 (fun _ _ h => h) (hK4 _ _ _ _ _ ?_))
  clear hK4
  refine hQ.ret (rvs1 (rv_t rfl)) (fun _ _ h => h) fun w hb hs hB hkd => ?_
  exact ⟨by rw [or_two]; rfl, hb⟩
theorem ref5_less (x y : PartR) (w : World) (hx : PartOk x) (hy : PartOk y) :
    Calls Try.prog 42 #[encPart.val x, encPart.val y] w fun e w' => e = .returned (.bool (decide (x.num * y.den < y.num * x.den))) ∧ Below w.heap.size w w' := by
  obtain ⟨⟨x1, x2⟩, x3, x4⟩ := hx
  obtain ⟨⟨y1, y2⟩, y3, y4⟩ := hy
  refine enterQ (N := 42) (C := fun _ => True) (H := []) (B := w.heap.size) (args := [_, _]) Try.func42 rfl rfl rfl (Nat.le_refl _) (Sat.nil _ _) fun Q hQ => ?_
  refine wp_seq' fun K1 hK1 => ?_
  refine wp_reg ?_
  refine ol_box 2 rfl rfl rfl fun b2 => ?_
  refine ol_box 3 rfl rfl rfl fun b3 => ?_
  refine ol_r (r_assign rfl) rfl ?_
  refine ol_nil (to_k0 (fun _ _ h => h) (hK1 _ _ _ _ _ ?_))
  clear hK1
  refine wp_seq' fun K2 hK2 => ?_
  refine wp_reg ?_
  refine ol_r (r_ixa (o' := 0) rfl rfl ar80 (by decide) rfl) rfl ?_
  refine ol_r (r_ld (id := 2) rfl rfl rfl sc3) rfl ?_
  refine ol_r (r_conv (k2 := .u64) rfl (by kernel_rfl) (by kernel_rfl) (wrap_u64 (by omega))) rfl ?_
  refine ol_r (r_ixa (o' := 1) rfl rfl ar80 (by decide) rfl) rfl ?_
  refine ol_r (r_ld (id := 3) rfl rfl rfl sc3) rfl ?_
  refine ol_r (r_conv (k2 := .u64) rfl (by kernel_rfl) (by kernel_rfl) (wrap_u64 (by omega))) rfl ?_
  refine ol_call rfl rfl cb78 rfl (fun w1 hb1 hs1 hB1 => Calls.mono (bits_MulI x.num y.den _ (by omega) (by omega)) ?_)
  rintro e w2 ⟨rfl, hb2⟩
  refine After.below rfl hb1 hs1 hB1 hb2 ?_
  clear hb2 hB1 hs1 hb1 w2 w1
  refine ol_r (r_move rfl) rfl ?_
  refine ol_r (r_extract rfl rfl) rfl ?_
  refine ol_r (r_extract rfl rfl) rfl ?_
  refine ol_r (r_assign rfl) rfl ?_
  refine ol_r (r_assign rfl) rfl ?_
  refine ol_nil (to_k0 (fun _ _ h => h) (hK2 _ _ _ _ _ ?_))
  clear hK2
  refine wp_seq' fun K3 hK3 => ?_
  refine wp_reg ?_
  refine ol_r (r_ixa (o' := 0) rfl rfl ar80 (by decide) rfl) rfl ?_
  refine ol_r (r_ld (id := 3) rfl rfl rfl sc3) rfl ?_
  refine ol_r (r_conv (k2 := .u64) rfl (by kernel_rfl) (by kernel_rfl) (wrap_u64 (by omega))) rfl ?_
  refine ol_r (r_ixa (o' := 1) rfl rfl ar80 (by decide) rfl) rfl ?_
  refine ol_r (r_ld (id := 2) rfl rfl rfl sc3) rfl ?_
  refine ol_r (r_conv (k2 := .u64) rfl (by kernel_rfl) (by kernel_rfl) (wrap_u64 (by omega))) rfl ?_
  refine ol_call rfl rfl cb78 rfl (fun w1 hb1 hs1 hB1 => Calls.mono (bits_MulI y.num x.den _ (by omega) (by omega)) ?_)
  rintro e w2 ⟨rfl, hb2⟩
  refine After.below rfl hb1 hs1 hB1 hb2 ?_
  clear hb2 hB1 hs1 hb1 w2 w1
  refine ol_r (r_move rfl) rfl ?_
  refine ol_r (r_extract rfl rfl) rfl ?_
  refine ol_r (r_extract rfl rfl) rfl ?_
  refine ol_r (r_assign rfl) rfl ?_
  refine ol_r (r_assign rfl) rfl ?_
  refine ol_nil (to_k0 (fun _ _ h => h) (hK3 _ _ _ _ _ ?_))
  clear hK3
  refine wp_seq' fun K4 hK4 => ?_
  refine wp_reg ?_
  refine ol_r (r_move rfl) rfl ?_
  refine ol_r (r_move rfl) rfl ?_
  refine ol_r (r_lss rfl rfl) rfl ?_
  refine ol_r (r_move rfl) rfl ?_
  refine ol_split (d := 32) rfl (fun hs32 => ?_) (fun hs32 => ?_)
  ·have phs32 := hs32; try simp only [decide_eq_true_eq, decide_eq_false_iff_not, Bool.not_eq_true', Bool.not_eq_false', Bool.not_true, Bool.not_false] at phs32
   refine ol_s rfl rfl hs32 rfl ?_
   refine ol_s rfl rfl hs32 rfl ?_
   refine ol_s rfl rfl hs32 rfl ?_
   refine ol_s rfl rfl hs32 rfl ?_
   refine ol_u rfl rfl rfl ?_
   refine ol_u rfl rfl rfl ?_
   refine ol_u rfl rfl rfl ?_
   refine ol_s rfl rfl hs32 rfl ?_
   refine ol_r (r_pickT rfl hs32 rfl) rfl ?_
   refine ol_r (r_assign rfl) rfl ?_
   refine ol_nil (to_k0 (fun _ _ h => h) (hK4 _ _ _ _ _ ?_))
   clear hK4
   refine hQ.ret (rvs1 (rv_t rfl)) (fun _ _ h => h) fun w hb hs hB hkd => ?_
   first
     | exact ⟨by rw [decide_eq_true (p := x.num * y.den < y.num * x.den) (by omega)], hb⟩
  ·have phs32 := hs32; try simp only [decide_eq_true_eq, decide_eq_false_iff_not, Bool.not_eq_true', Bool.not_eq_false', Bool.not_true, Bool.not_false] at phs32
   refine ol_g rfl rfl hs32 ?_
   refine ol_r (r_move rfl) rfl ?_
   refine ol_g rfl rfl hs32 ?_
   refine ol_r (r_move rfl) rfl ?_
   refine ol_g rfl rfl hs32 ?_
   refine ol_r (r_eql rfl rfl) rfl ?_
   refine ol_g rfl rfl hs32 ?_
   refine ol_r (r_move rfl) rfl ?_
   refine ol_split (d := 36) rfl (fun hs36 => ?_) (fun hs36 => ?_)
   ·have phs36 := hs36; try simp only [decide_eq_true_eq, decide_eq_false_iff_not, Bool.not_eq_true', Bool.not_eq_false', Bool.not_true, Bool.not_false] at phs36
    refine ol_g rfl rfl hs36 ?_
    refine ol_r (r_move rfl) rfl ?_
    refine ol_g rfl rfl hs36 ?_
    refine ol_r (r_move rfl) rfl ?_
    refine ol_g rfl rfl hs36 ?_
    refine ol_r (r_lss rfl rfl) rfl ?_
    refine ol_g rfl rfl hs32 ?_
    refine ol_r (r_pickT rfl hs36 rfl) rfl ?_
    refine ol_r (r_pickF rfl hs32 rfl) rfl ?_
    refine ol_r (r_assign rfl) rfl ?_
    refine ol_nil (to_k0 (fun _ _ h => h) (hK4 _ _ _ _ _ ?_))
    clear hK4
    refine hQ.ret (rvs1 (rv_t rfl)) (fun _ _ h => h) fun w hb hs hB hkd => ?_
    first
      | exact ⟨congrArg (fun b => Ending.returned (Value.bool b)) (decide_eq_decide.2 (by omega)), hb⟩
   ·have phs36 := hs36; try simp only [decide_eq_true_eq, decide_eq_false_iff_not, Bool.not_eq_true', Bool.not_eq_false', Bool.not_true, Bool.not_false] at phs36
    refine ol_s rfl rfl hs36 rfl ?_
    refine ol_s rfl rfl hs36 rfl ?_
    refine ol_s rfl rfl hs36 rfl ?_
    refine ol_g rfl rfl hs32 ?_
    refine ol_r (r_pickF rfl hs36 rfl) rfl ?_
    refine ol_r (r_pickF rfl hs32 rfl) rfl ?_
    refine ol_r (r_assign rfl) rfl ?_
    refine ol_nil (to_k0 (fun _ _ h => h) (hK4 _ _ _ _ _ ?_))
    clear hK4
    refine hQ.ret (rvs1 (rv_t rfl)) (fun _ _ h => h) fun w hb hs hB hkd => ?_
    first
      | exact ⟨by rw [decide_eq_false (p := x.num * y.den < y.num * x.den) (by omega)], hb⟩
theorem part_ok {g : GateR} {p q : SmpR} (hg : ∀ o, fG o g = 0) (hp : PlaceOk p) (hq : PlaceOk q) (h : crB g p q = true) : PartOk (partOf g p q) ∧ (partOf g p q).num ≤ (partOf g p q).den ∧ partOf g p q = ⟨-gSide g p, gSide g q - gSide g p⟩ := by
  obtain ⟨⟨g1, g2⟩, g3, g4⟩ := gate_bd hg
  obtain ⟨p1, p2⟩ := hp
  obtain ⟨q1, q2⟩ := hq
  have b1 := side6_bd g1 g2 g3 g4 p1 p2
  have b2 := side6_bd g1 g2 g3 g4 q1 q2
  have hpe : partOf g p q = ⟨-gSide g p, gSide g q - gSide g p⟩ := by rw [partOf, if_pos h]
  have hpo := crB_pos h
  unfold gSide at hpo hpe
  rw [hpe]
  unfold gSide
  exact ⟨⟨⟨by show 0 ≤ -_; omega, by show -_ ≤ _; omega⟩, by show 1 ≤ _ - _; omega, by show _ - _ ≤ (_ : Int); omega⟩, by show -_ ≤ _ - _; omega, rfl⟩
def cfG (gs : List GateR) (p q : SmpR) (i k : Int) : Int := if ltG gs p q i k = true then -1 else if ltG gs p q k i = true then 1 else 0
theorem cfG_lt (gs : List GateR) (p q : SmpR) : ltC (cfG gs p q) = ltG gs p q := by
  funext i k
  unfold ltC cfG
  cases h : ltG gs p q i k with
  | true => rfl
  | false => cases h2 : ltG gs p q k i <;> rfl
def GoodI (gs : List GateR) (p q : SmpR) (i : Int) : Prop := ∃ (j : Nat) (g : GateR), i = j ∧ gs[j]? = some g ∧ crB g p q = true
theorem cfG_cfP {gs : List GateR} {p q : SmpR} {i k : Nat} {g h : GateR} (hi : gs[i]? = some g) (hk : gs[k]? = some h) (h1 : PartOk (partOf g p q)) (h2 : PartOk (partOf h p q)) : cfG gs p q i k = cfP (partOf g p q) (partOf h p q) := by
  unfold cfG ltG cfP cmpI
  rw [gPart_at hi, gPart_at hk, posI_eq (n := (partOf g p q).den) (by have := h1.2.1; omega), posI_eq (n := (partOf h p q).den) (by have := h2.2.1; omega)]
  simp only [decide_eq_true_eq]
theorem crossings_cmp (gs : List GateR) (p q : SmpR) (B cb : Nat) (pa : Option Addr) (pn pc : Nat) (w : World) (x y : Int) (hg : ∀ g ∈ gs, ∀ o, fG o g = 0) (hp : PlaceOk p) (hq : PlaceOk q) (hl : gs.length ≤ 50) (hpn : pn = gs.length) (hx : GoodI gs p q x) (hy : GoodI gs p q y)
    (hs : Sat B w [(5001, .blk cb [(0, .slice pa pn pc)] 110), (5002, .row pa pn pc (encPart.enc (gs.map fun g => partOf g p q)) 112 2)]) (hB : B ≤ w.heap.size) :
    Calls Try.prog 74 #[.int .i64 x, .int .i64 y, .pointer (some ⟨cb, 0, none⟩)] w fun e w' => e = .returned (.int .i64 (cfG gs p q x y)) ∧ Below w.heap.size w w' := by
  obtain ⟨i, g, rfl, hi, hcg⟩ := hx
  obtain ⟨k, h, rfl, hk, hch⟩ := hy
  obtain ⟨ok1, _, _⟩ := part_ok (hg g (List.mem_of_getElem? hi)) hp hq hcg
  obtain ⟨ok2, _, _⟩ := part_ok (hg h (List.mem_of_getElem? hk)) hp hq hch
  have hil := (List.getElem?_eq_some_iff.1 hi).1
  have hkl := (List.getElem?_eq_some_iff.1 hk).1
  have hml : (gs.map fun g => partOf g p q).length = gs.length := List.length_map _
  have hb0 := hs.blk (id := 5001) rfl
  have hr0 := Sat.rd hs (E := encPart) (xs := gs.map fun g => partOf g p q) (id := 5002) rfl rfl
  rw [cfG_cfP hi hk ok1 ok2]
  refine enterQ (N := 15) (C := fun _ => True) (H := []) (B := w.heap.size) (args := [_, _, _]) Try.func74 rfl rfl rfl (Nat.le_refl _) (Sat.nil _ _) fun Q hQ => ?_
  refine wp_seq' fun K1 hK1 => ?_
  refine wp_reg ?_
  refine ol_r (r_assign rfl) rfl ?_
  refine ol_nil (to_k0 (fun _ _ h => h) (hK1 _ _ _ _ _ ?_))
  clear hK1
  refine wp_seq' fun K2 hK2 => ?_
  refine wp_regq (by kernel_rfl) (by kernel_rfl) ?_
  refine ql_r (r_ldw rfl (fun w1 hb1 hs1 hB1 => Blk.loads (o := 0) hb0 hb1 sc110 rfl)) rfl ?_
  refine ql_r (r_move rfl) rfl ?_
  refine ql_ixr hr0 rfl rfl sl110 (by omega) rfl fun x8 hx8 => ?_
  try simp only [Int.toNat_natCast] at hx8
  refine ql_r (r_ldw rfl (fun w1 hb1 hs1 hB1 => Rd.loads hr0 ty112 hx8 hb1)) rfl ?_
  refine ql_r (r_ldw rfl (fun w1 hb1 hs1 hB1 => Blk.loads (o := 0) hb0 hb1 sc110 rfl)) rfl ?_
  refine ql_r (r_move rfl) rfl ?_
  refine ql_ixr hr0 rfl rfl sl110 (by omega) rfl fun x12 hx12 => ?_
  try simp only [Int.toNat_natCast] at hx12
  refine ql_r (r_ldw rfl (fun w1 hb1 hs1 hB1 => Rd.loads hr0 ty112 hx12 hb1)) rfl ?_
  obtain rfl : x8 = partOf g p q := by rw [List.getElem?_map, hi] at hx8; exact (Option.some.inj hx8).symm
  obtain rfl : x12 = partOf h p q := by rw [List.getElem?_map, hk] at hx12; exact (Option.some.inj hx12).symm
  refine ql_call rfl rfl cb75 rfl (fun w1 hb1 hs1 hB1 => match_compare _ _ _ ok1 ok2) ?_
  refine ql_r (r_assign rfl) rfl ?_
  refine ql_nil (to_k0 (fun _ _ h => h) (hK2 _ _ _ _ _ ?_))
  clear hK2
  refine hQ.ret (rvs1 (rv_t rfl)) (fun _ _ h => h) fun w hb hs hB hkd => ?_
  exact ⟨rfl, hb⟩
theorem gOrd_of {gs : List GateR} {p q : SmpR} {k : Nat} {f g : Nat → Int} {n : Nat} (hf : gIdx gs p q k = tab n f) (h1 : SoR (ltG gs p q) g 0 n) (h2 : SaS f g 0 n) : tab n g = gOrd gs p q k :=
  gOrd_one (tab_pair h1) fun x => by rw [hf]; exact (h2.mem x).symm
theorem scale_part {x : PartR} {d : Int} (hx : PartOk x) (hnd : x.num ≤ x.den) (hd : 0 ≤ d ∧ d ≤ 1000000000) : x.num * (1000 * d) / x.den ≤ 1000 * d ∧ 0 ≤ x.num * (1000 * d) / x.den := by
  constructor
  · refine Int.ediv_le_of_le_mul (by have := hx.2.1; omega) ?_
    rw [Int.mul_comm]
    exact Int.mul_le_mul_of_nonneg_left hnd (by omega)
  · exact Int.ediv_nonneg (Int.mul_nonneg hx.1.1 (by omega)) (by have := hx.2.1; omega)
theorem cross_gen (nm : ByteArray) (ga : Option Addr) (gn gc : Nat) (gs : List GateR) (A : ActV) (w : World) (hS : Rd encGate w.heap.size w ga gn gc gs) (hA : A.Ok w.heap.size w) (hseg : SegOk nm gs) (hok : SmpOk A.start A.ss) :
    Calls Try.prog 36 #[.agg #[.string nm, .slice ga gn gc], .agg #[.string A.name, .int .i64 A.sport, .int .i64 A.start, .slice A.sa A.sn A.sc, .slice A.la A.ln A.lc, .slice A.ta A.tn A.tc]] w fun e w' => ∃ b m k, e = .returned (.slice b m k) ∧ Fresh encCr 36 w w' b m k (crossS gs (stepsL A.ss) (stepsL A.ss).length) := by
  have hgn := hS.len
  have hgl := hseg.len
  have hsn := hA.s.len
  have hsf := hA.s.fit
  have hlen := stepsL_len A.ss
  have hl20 := hok.len
  refine enterQ (N := 92) (C := fun _ => True) (H := []) (B := w.heap.size) (args := [_, _]) Try.func36 rfl rfl rfl (Nat.le_refl _) (Sat.nil _ _) fun Q hQ => ?_
  refine wp_seq' fun K1 hK1 => ?_
  refine wp_reg ?_
  refine ol_box 2 rfl rfl rfl fun b2 => ?_
  refine ol_box 3 rfl rfl rfl fun b3 => ?_
  refine ol_r (r_assign rfl) rfl ?_
  refine ol_nil (to_k0 (fun _ _ h => h) (hK1 _ _ _ _ _ ?_))
  clear hK1
  refine wp_seq' fun K2 hK2 => ?_
  refine wp_reg ?_
  refine ol_alloc 5 z30 rfl fun b5 => ?_
  refine ol_nilrow 3005 36 3 ?_
  refine ol_nil (to_k0 (fun _ _ h => h) (hK2 _ _ _ _ _ ?_))
  clear hK2
  refine wp_seq' fun K3 hK3 => ?_
  refine wp_reg ?_
  refine ol_alloc 6 z3 rfl fun b6 => ?_
  refine ol_store (id := 6) rfl rfl rfl rfl sz3 rfl rfl (by first | decide | exact Nat.zero_lt_succ _ | simp) ?_
  refine ol_nil (to_k0 (fun _ _ h => h) (hK3 _ _ _ _ _ ?_))
  clear hK3
  refine wp_seq' fun K4 hK4 => ?_
  refine wp_seq' fun K5 hK5 => ?_
  refine wp_reg ?_
  refine ol_r (r_lda (id := 3) (n := 6) rfl rfl rfl ag29) rfl ?_
  refine ol_call rfl rfl cb71 rfl (fun w1 hb1 hs1 hB1 => ?_)
  refine Calls.mono (track_Steps A _ (hA.at hb1 hB1)) ?_
  rintro e w2 ⟨b0, T0, rfl, hb2, hs2⟩
  refine After.more rfl hb1 hs1 hB1 hb2 hs2 ?_
  clear hs2 hb2 hB1 hs1 hb1 w2 w1
  refine ol_nil (to_k0 (fun _ _ h => h) (hK5 _ _ _ _ _ ?_))
  clear hK5
  refine wp_block' ?_
  refine wp_rf (σ := Option Addr × Nat × Nat) (τ := Unit) (encs := fun x : SmpR × SmpR => [.agg #[.int .i64 x.1.at_, .int .i64 x.1.x, .int .i64 x.1.y, .int .i64 x.1.z, .int .i64 x.1.pulse, .int .i64 x.1.power, .int .i64 x.1.steps], .agg #[.int .i64 x.2.at_, .int .i64 x.2.x, .int .i64 x.2.y, .int .i64 x.2.z, .int .i64 x.2.pulse, .int .i64 x.2.power, .int .i64 x.2.steps]]) (zs := stepsL A.ss) rfl cb99 (steps_iter A _ b0 _ hA.s) (by rfl) (by rfl) (by rfl) (fun _ => rfl) (fun k s => k ≤ (stepsL A.ss).length ∧ s.2.1 ≤ 50 * k) (fun k s => [(5, .blk b5 [(0, .slice s.1 s.2.1 s.2.2)] 30), (6, .blk b6 [(0, .int .i64 k)] 3), (3005, .row s.1 s.2.1 s.2.2 (encCr.enc (crossS gs (stepsL A.ss) k)) 36 3)]) [(2, _), (3, _), (1001, _)] (fun t => False) (fun t => []) ((none, 0, 0)) ?_ (by exact (subH_blk rfl (sub_cons rfl sub_nil) (subH_blk rfl (sub_cons rfl sub_nil) (subH_row rfl (by rfl) subH_nil)))) (subH_same rfl (subH_same rfl (subH_same rfl subH_nil))) ?_ ?_ ?_ ?_
  ·try dsimp only
   omega
  ·intro k s W hI hbW hsW hBW
   exact ⟨hbW, ⟨_, hsW.one 1001 100 rfl (Ent.le_refl _)⟩, hBW⟩
  ·rintro k x ⟨oa, on, oc⟩ B0 W hx hI hbW hBW hB0
   have hxx := stepsL_inv hx
   have hp := hok.place (List.mem_of_getElem? hxx.1)
   have hq := hok.place (List.mem_of_getElem? hxx.2)
   have hba := hok.bd _ (List.mem_of_getElem? hxx.1)
   have hbb := hok.bd _ (List.mem_of_getElem? hxx.2)
   have hri := hok.rise _ _ _ hxx.1 hxx.2
   have hkl := (List.getElem?_eq_some_iff.1 hx).1
   have hil := gIdx_len gs x.1 x.2 gs.length
   dsimp only at hI ⊢
   intro Ka6 hKa6
   simp only [alp]
   refine wp_seq' fun K7 hK7 => ?_
   refine wp_reg ?_
   refine ol_alloc 7 z73 rfl fun b7 => ?_
   refine ol_store (id := 7) rfl rfl rfl rfl sz73 rfl rfl (by first | decide | exact Nat.zero_lt_succ _ | simp) ?_
   refine ol_nil (to_k0 (fun _ _ h => h) (hK7 _ _ _ _ _ ?_))
   clear hK7
   refine wp_reg ?_
   refine ol_alloc 8 z73 rfl fun b8 => ?_
   refine ol_store (id := 8) rfl rfl rfl rfl sz73 rfl rfl (by first | decide | exact Nat.zero_lt_succ _ | simp) ?_
   refine ol_nil (to_k0 (fun _ _ h => h) (hKa6 _ _ fun Wb R hbw hBw hn hr => ?_))
   have hS := hS.below hbw
   refine wp_block' ?_
   refine wp_seq' fun K8 hK8 => ?_
   refine wp_reg ?_
   refine ol_alloc 9 z110 rfl fun b9 => ?_
   refine ol_nilrow 3009 112 2 ?_
   refine ol_nil (to_k0 (fun _ _ h => h) (hK8 _ _ _ _ _ ?_))
   clear hK8
   refine wp_seq' fun K9 hK9 => ?_
   refine wp_reg ?_
   refine ol_nilrow 10 3 1 ?_
   refine ol_r (r_assign rfl) rfl ?_
   refine ol_nil (to_k0 (fun _ _ h => h) (hK9 _ _ _ _ _ ?_))
   clear hK9
   refine wp_seq' fun K10 hK10 => ?_
   refine wp_seq' fun K11 hK11 => ?_
   refine wp_reg ?_
   refine ol_r (r_fa (o' := 1) rfl fl24_1 rfl) rfl ?_
   refine ol_r (r_ld (id := 2) rfl rfl rfl sc22) rfl ?_
   refine ol_r (r_len rfl sl22) rfl ?_
   refine ol_r (r_move rfl) rfl ?_
   refine ol_nil (to_k0 (fun _ _ h => h) (hK11 _ _ _ _ _ ?_))
   clear hK11
   refine wp_block' ?_
   apply wp_loopM (σ := Nat × Option Addr × Nat × Nat × Option Addr × Nat) (fun s => s.1 ≤ gn ∧ (gIdx gs x.1 x.2 s.1).length = s.2.2.1) (fun s => [(26, .int .i64 s.1), (10, .slice s.2.1 s.2.2.1 s.2.2.2.1)]) [(4, _), (5, _), (6, _), (7, _), (8, _), (9, _), (24, _), (25, _)] (fun s => [(10, .row s.2.1 s.2.2.1 s.2.2.2.1 (encI.enc (gIdx gs x.1 x.2 s.1)) 3 1), (9, .blk b9 [(0, .slice s.2.2.2.2.1 s.1 s.2.2.2.2.2)] 110), (3009, .row s.2.2.2.2.1 s.1 s.2.2.2.2.2 (encPart.enc ((gs.take s.1).map fun g => partOf g x.1 x.2)) 112 2)]) [(2, _), (3, _), (5, _), (6, _), (7, _), (8, _), (1001, _), (3005, _)] (fun s => gn - s.1) ((0, none, 0, 0, none, 0))
   ·try dsimp only
    exact ⟨Nat.zero_le _, rfl⟩
   ·exact (sub_cons rfl (sub_cons rfl sub_nil))
   ·exact (sub_cons rfl (sub_cons rfl (sub_cons rfl (sub_cons rfl (sub_cons rfl (sub_cons rfl (sub_cons rfl (sub_cons rfl sub_nil))))))))
   ·exact (subH_row rfl (by dsimp only; rfl) (subH_blk rfl (sub_cons rfl sub_nil) (subH_row rfl (by dsimp only; rfl) subH_nil)))
   ·exact (subH_same rfl (subH_same rfl (subH_same rfl (subH_same rfl (subH_same rfl (subH_same rfl (subH_same rfl (subH_same rfl subH_nil))))))))
   ·rintro ⟨j, qa, qn, qc, pa, pc⟩ ⟨hj, hqn⟩
    dsimp only at hj hqn ⊢
    have hql := gIdx_len gs x.1 x.2 j
    intro K12 hK12
    refine wp_seq' fun K13 hK13 => ?_
    refine wp_reg ?_
    refine ol_r (r_lss rfl rfl) rfl ?_
    refine ol_nil (to_k0 (fun _ _ h => h) (hK13 _ _ _ _ _ ?_))
    clear hK13
    refine wp_seq' fun K14 hK14 => ?_
    refine wp_condD rfl (fun hc27 => ?_) (fun hc27 => ?_)
    ·refine wp_skip' (to_k0 (fun _ _ h => h) (hK14 _ _ _ _ _ ?_))
     clear hK14
     refine wp_seq' fun K15 hK15 => ?_
     refine wp_block' ?_
     refine wp_seq' fun K16 hK16 => ?_
     refine wp_reg ?_
     refine ol_r (r_move rfl) rfl ?_
     refine ol_ixr hS rfl rfl sl22 (by omega) rfl fun x29 hx29 => ?_
     try simp only [Int.toNat_natCast] at hx29
     refine ol_r (r_ldw rfl (fun w1 hb1 hs1 hB1 => Rd.loads hS ty75 hx29 hb1)) rfl ?_
     refine ol_alloc 12 z75 rfl fun b12 => ?_
     refine ol_r (r_assign rfl) rfl ?_
     refine ol_store (id := 12) rfl rfl rfl rfl sz75 rfl rfl (by first | decide | exact Nat.zero_lt_succ _ | simp) ?_
     refine ol_nil (to_k0 (fun _ _ h => h) (hK16 _ _ _ _ _ ?_))
     clear hK16
     refine wp_seq' fun K17 hK17 => ?_
     refine wp_reg ?_
     refine ol_r (r_lda (id := 12) (n := 4) rfl rfl rfl ag75) rfl ?_
     refine ol_r (r_lda (id := 7) (n := 7) rfl rfl rfl ag73) rfl ?_
     refine ol_r (r_lda (id := 8) (n := 7) rfl rfl rfl ag73) rfl ?_
     refine ol_call rfl rfl cb72 rfl (fun w1 hb1 hs1 hB1 => Calls.mono (match_crosses x29 x.1 x.2 _ (hseg.g x29 (List.mem_of_getElem? hx29)) hp hq) ?_)
     rintro e w2 ⟨rfl, hb2⟩
     refine After.below rfl hb1 hs1 hB1 hb2 ?_
     clear hb2 hB1 hs1 hb1 w2 w1
     refine ol_r (r_move rfl) rfl ?_
     refine ol_r (r_extract rfl rfl) rfl ?_
     refine ol_r (r_extract rfl rfl) rfl ?_
     refine ol_alloc 13 z112 rfl fun b13 => ?_
     refine ol_store (id := 13) rfl rfl rfl rfl sz112 rfl rfl (by first | decide | exact Nat.zero_lt_succ _ | simp) ?_
     refine ol_r (r_assign rfl) rfl ?_
     refine ol_nil (to_k0 (fun _ _ h => h) (hK17 _ _ _ _ _ ?_))
     clear hK17
     refine wp_seq' fun K18 hK18 => ?_
     refine wp_seq' fun K19 hK19 => ?_
     refine wp_reg ?_
     refine ol_r (r_move rfl) rfl ?_
     refine ol_nil (to_k0 (fun _ _ h => h) (hK19 _ _ _ _ _ ?_))
     clear hK19
     refine wp_cond' rfl (fun hc38 => ?_) (fun hc38 => ?_)
     ·refine wp_reg ?_
      refine ol_r (r_move rfl) rfl ?_
      refine ol_r (r_move rfl) rfl ?_
      refine ol_bs1 41 rfl rfl rw47 rfl rfl rfl fun a41 => ?_
      refine ol_append1 (id := 10) (id2 := 41) rfl rfl rfl rfl rfl rw47 (by omega) rfl fun a42 c42 => ?_
      refine ol_r (r_assign rfl) rfl ?_
      refine ol_nil (to_k0 (fun _ _ h => h) (hK18 _ _ _ _ _ ?_))
      clear hK18
      refine wp_reg ?_
      refine ol_r (r_ld (id := 9) rfl rfl rfl sc110) rfl ?_
      refine ol_r (r_lda (id := 13) (n := 2) rfl rfl rfl ag112) rfl ?_
      refine ol_bs1 45 rfl rfl rw110 rfl rfl rfl fun a45 => ?_
      refine ol_append1 (id := 3009) (id2 := 45) rfl rfl rfl rfl rfl rw110 (by omega) rfl fun a46 c46 => ?_
      refine ol_store (id := 9) rfl rfl rfl rfl sz110 rfl rfl (by first | decide | exact Nat.zero_lt_succ _ | simp) ?_
      refine ol_nil (to_k0 (fun _ _ h => h) (hK15 _ _ _ _ _ ?_))
      clear hK15
      refine wp_reg ?_
      refine ol_r (r_add rfl rfl (by omega)) rfl ?_
      refine ol_r (r_move rfl) rfl ?_
      refine ol_nil (to_k0 (fun _ _ h => h) (hK12 ((j + 1, _, _, _, _, _)) _ _ ?_ ?_ (sub_cons rfl (sub_cons rfl sub_nil)) (sub_cons rfl (sub_cons rfl (sub_cons rfl (sub_cons rfl (sub_cons rfl (sub_cons rfl (sub_cons rfl (sub_cons rfl sub_nil)))))))) (by exact (subH_row rfl (by first | (dsimp only; first | (rw [gIdx_yes hx29 hc38, encI_snoc]) | (rw [gIdx_no hx29 hc38]) | (rw [take_succ_get hx29, List.map_append, Enc.enc_append]; rfl); done) | (first | (rw [gIdx_yes hx29 hc38, encI_snoc]) | (rw [gIdx_no hx29 hc38]) | (rw [take_succ_get hx29, List.map_append, Enc.enc_append]; rfl); done) | (dsimp only; done)) (subH_blk rfl (sub_cons rfl sub_nil) (subH_row rfl (by dsimp only; first | (rw [gIdx_yes hx29 hc38, encI_snoc]) | (rw [gIdx_no hx29 hc38]) | (rw [take_succ_get hx29, List.map_append, Enc.enc_append]; rfl)) subH_nil)))) (subH_same rfl (subH_same rfl (subH_same rfl (subH_same rfl (subH_same rfl (subH_same rfl (subH_same rfl (subH_same rfl subH_nil))))))))))
      ·try dsimp only
       first
         | exact ⟨by omega, by rw [gIdx_yes hx29 hc38, List.length_append, hqn]; rfl⟩
      ·try dsimp only
       omega
     ·refine wp_skip' (to_k0 (fun _ _ h => h) (hK18 _ _ _ _ _ ?_))
      clear hK18
      refine wp_reg ?_
      refine ol_r (r_ld (id := 9) rfl rfl rfl sc110) rfl ?_
      refine ol_r (r_lda (id := 13) (n := 2) rfl rfl rfl ag112) rfl ?_
      refine ol_bs1 45 rfl rfl rw110 rfl rfl rfl fun a45 => ?_
      refine ol_append1 (id := 3009) (id2 := 45) rfl rfl rfl rfl rfl rw110 (by omega) rfl fun a46 c46 => ?_
      refine ol_store (id := 9) rfl rfl rfl rfl sz110 rfl rfl (by first | decide | exact Nat.zero_lt_succ _ | simp) ?_
      refine ol_nil (to_k0 (fun _ _ h => h) (hK15 _ _ _ _ _ ?_))
      clear hK15
      refine wp_reg ?_
      refine ol_r (r_add rfl rfl (by omega)) rfl ?_
      refine ol_r (r_move rfl) rfl ?_
      refine ol_nil (to_k0 (fun _ _ h => h) (hK12 ((j + 1, _, _, _, _, _)) _ _ ?_ ?_ (sub_cons rfl (sub_cons rfl sub_nil)) (sub_cons rfl (sub_cons rfl (sub_cons rfl (sub_cons rfl (sub_cons rfl (sub_cons rfl (sub_cons rfl (sub_cons rfl sub_nil)))))))) (by exact (subH_row rfl (by first | (dsimp only; first | (rw [gIdx_yes hx29 hc38, encI_snoc]) | (rw [gIdx_no hx29 hc38]) | (rw [take_succ_get hx29, List.map_append, Enc.enc_append]; rfl); done) | (first | (rw [gIdx_yes hx29 hc38, encI_snoc]) | (rw [gIdx_no hx29 hc38]) | (rw [take_succ_get hx29, List.map_append, Enc.enc_append]; rfl); done) | (dsimp only; done)) (subH_blk rfl (sub_cons rfl sub_nil) (subH_row rfl (by dsimp only; first | (rw [gIdx_yes hx29 hc38, encI_snoc]) | (rw [gIdx_no hx29 hc38]) | (rw [take_succ_get hx29, List.map_append, Enc.enc_append]; rfl)) subH_nil)))) (subH_same rfl (subH_same rfl (subH_same rfl (subH_same rfl (subH_same rfl (subH_same rfl (subH_same rfl (subH_same rfl subH_nil))))))))))
      ·try dsimp only
       first
         | exact ⟨by omega, by rw [gIdx_no hx29 hc38]; exact hqn⟩
      ·try dsimp only
       omega
    ·refine wp_exit' (to_k0 (fun _ _ h => h) (hK10 _ _ _ _ _ ?_))
     clear hK10
     refine wp_seq' fun K20 hK20 => ?_
     refine wp_reg ?_
     obtain rfl : j = gs.length := by omega
     rw [List.take_of_length_le (Nat.le_refl _)]
     obtain ⟨f, hf, hfx⟩ := tab_of (gIdx gs x.1 x.2 gs.length)
     rw [hqn] at hf
     have hfu : ∀ i k, i < k → k < qn → f i < f k := fun i k h1 h2 => by
       have h3 := gIdx_up gs x.1 x.2 gs.length
       rw [List.pairwise_iff_getElem] at h3
       have h4 := h3 i k (by omega) (by omega) h1
       rw [hfx i _ (List.getElem?_eq_getElem (by omega)), hfx k _ (List.getElem?_eq_getElem (by omega))]
       exact h4
     have hfg : ∀ i, i < qn → GoodI gs x.1 x.2 (f i) := fun i h1 => by
       have h2 : f i ∈ gIdx gs x.1 x.2 gs.length := by rw [hf]; exact tab_mem.2 ⟨i, h1, rfl⟩
       obtain ⟨j, g, e1, e2, e3, e4⟩ := gIdx_mem h2
       exact ⟨j, g, e1, e3, e4⟩
     have hol : (gOrd gs x.1 x.2 gs.length).length = qn := by rw [gOrd_len]; exact hqn
     refine ol_r (r_move rfl) rfl ?_
     refine ol_r (r_func rfl) rfl ?_
     refine ol_call rfl rfl cb73 rfl (fun w1 hb1 hs1 hB1 => ?_)
     refine Calls.mono (sortStable_w (cfG gs x.1 x.2) (GoodI gs x.1 x.2) w.heap.size b9 _ _ _ _ _ _ _ _ _ _ _ _ _ (by rw [cfG_lt]; exact ltG_swo _ _ _) (by omega) (fun w3 i k gi gk hs3 hB3 => crossings_cmp gs x.1 x.2 _ _ _ _ _ w3 i k hseg.g hp hq (by omega) rfl gi gk hs3 hB3) f _ hB1 hfu hfg (hs1.kle [(10, 5000), (9, 5001), (3009, 5002), (2, 5003), (3, 5004), (5, 5005), (6, 5006), (7, 5007), (8, 5008), (3005, 5009), (1001, 5010)] (kle_cons rfl (row_le (by rw [← hf])) (kle_cons rfl (Ent.le_refl _) (kle_cons rfl (Ent.le_refl _) (kle_cons rfl (Ent.le_refl _) (kle_cons rfl (Ent.le_refl _) (kle_cons rfl (Ent.le_refl _) (kle_cons rfl (Ent.le_refl _) (kle_cons rfl (Ent.le_refl _) (kle_cons rfl (Ent.le_refl _) (kle_cons rfl (Ent.le_refl _) (kle_cons rfl (Ent.le_refl _) kle_nil))))))))))) (by decide))) ?_
     rintro e w2 ⟨g, rfl, hb2, hs2, hB2, hk2, hg1, hg2⟩
     have hg3 := gOrd_of hf (by rw [← cfG_lt]; exact hg1) hg2
     rw [hg3] at hs2
     refine After.sat rfl hb1 hb2 (hs2.kle [(5000, 10), (5001, 9), (5002, 3009), (5003, 2), (5004, 3), (5005, 5), (5006, 6), (5007, 7), (5008, 8), (5009, 3005), (5010, 1001)] (kle_cons rfl (Ent.le_refl _) (kle_cons rfl (Ent.le_refl _) (kle_cons rfl (Ent.le_refl _) (kle_cons rfl (Ent.le_refl _) (kle_cons rfl (Ent.le_refl _) (kle_cons rfl (Ent.le_refl _) (kle_cons rfl (Ent.le_refl _) (kle_cons rfl (Ent.le_refl _) (kle_cons rfl (Ent.le_refl _) (kle_cons rfl (Ent.le_refl _) (kle_cons rfl (Ent.le_refl _) kle_nil))))))))))) (by decide)) hB2 (hk2.imp fun _ h => h.elim) ?_
     clear hg3 hg1 hg2 hk2 hs2 hb2 hB2 hB1 hs1 hb1 w2 w1
     refine ol_nil (to_k0 (fun _ _ h => h) (hK20 _ _ _ _ _ ?_))
     clear hK20
     refine wp_seq' fun K21 hK21 => ?_
     refine wp_seq' fun K22 hK22 => ?_
     refine wp_reg ?_
     refine ol_r (r_move rfl) rfl ?_
     refine ol_r (r_len rfl sl47) rfl ?_
     refine ol_r (r_move rfl) rfl ?_
     refine ol_nil (to_k0 (fun _ _ h => h) (hK22 _ _ _ _ _ ?_))
     clear hK22
     refine wp_block' ?_
     apply wp_loopM (σ := Nat × Option Addr × Nat × Nat) (fun s => s.1 ≤ qn ∧ s.2.2.1 = on + s.1) (fun s => [(53, .int .i64 s.1)]) [(4, _), (5, _), (6, _), (7, _), (8, _), (9, _), (51, _), (52, _)] (fun s => [(5, .blk b5 [(0, .slice s.2.1 s.2.2.1 s.2.2.2)] 30), (3005, .row s.2.1 s.2.2.1 s.2.2.2 (encCr.enc (crossS gs (stepsL A.ss) k ++ ((gOrd gs x.1 x.2 gs.length).take s.1).map (crossOf gs x.1 x.2 k))) 36 3)]) [(2, _), (3, _), (6, _), (7, _), (8, _), (9, _), (10, _), (1001, _), (3009, _)] (fun s => qn - s.1) ((0, _, _, _))
     ·try dsimp only
      exact ⟨Nat.zero_le _, rfl⟩
     ·exact (sub_cons rfl sub_nil)
     ·exact (sub_cons rfl (sub_cons rfl (sub_cons rfl (sub_cons rfl (sub_cons rfl (sub_cons rfl (sub_cons rfl (sub_cons rfl sub_nil))))))))
     ·exact (subH_blk rfl (sub_cons rfl sub_nil) (subH_row rfl (by dsimp only; (rw [List.take_zero]; simp)) subH_nil))
     ·exact (subH_same rfl (subH_same rfl (subH_same rfl (subH_same rfl (subH_same rfl (subH_same rfl (subH_same rfl (subH_same rfl (subH_same rfl subH_nil)))))))))
     ·rintro ⟨t, oa2, on2, oc2⟩ ⟨ht, hon⟩
      dsimp only at ht hon ⊢
      intro K23 hK23
      refine wp_seq' fun K24 hK24 => ?_
      refine wp_reg ?_
      refine ol_r (r_lss rfl rfl) rfl ?_
      refine ol_nil (to_k0 (fun _ _ h => h) (hK24 _ _ _ _ _ ?_))
      clear hK24
      refine wp_seq' fun K25 hK25 => ?_
      refine wp_condD rfl (fun hc54 => ?_) (fun hc54 => ?_)
      ·refine wp_skip' (to_k0 (fun _ _ h => h) (hK25 _ _ _ _ _ ?_))
       clear hK25
       refine wp_seq' fun K26 hK26 => ?_
       refine wp_block' ?_
       refine wp_seq' fun K27 hK27 => ?_
       refine wp_reg ?_
       refine ol_ixo (id := 10) encI _ rfl rfl rfl rfl sl47 (by omega) rfl fun x55 hx55 => ?_
       try simp only [Int.toNat_natCast] at hx55
       try simp only [Int.toNat_natCast] at hx55
       refine ol_r (r_ldw rfl (fun w1 hb1 hs1 hB1 => show Loads _ _ _ _ (.int .i64 x55) from ld_own (id := 10) hs1 rfl rfl ty3 hx55)) rfl ?_
       refine ol_r (r_assign rfl) rfl ?_
       refine ol_nil (to_k0 (fun _ _ h => h) (hK27 _ _ _ _ _ ?_))
       clear hK27
       refine wp_seq' fun K28 hK28 => ?_
       refine wp_regq (by kernel_rfl) (by kernel_rfl) ?_
       obtain ⟨i, g, rfl, hi, hgi, hcr⟩ := gIdx_mem (gOrd_mem.1 (List.mem_of_getElem? hx55))
       obtain ⟨hpk, hnd, hpe⟩ := part_ok (hseg.g g (List.mem_of_getElem? hgi)) hp hq hcr
       have hsc := scale_part hpk hnd (d := x.2.at_ - x.1.at_) (by omega)
       obtain ⟨⟨hpk1, hpk2⟩, hpk3, hpk4⟩ := hpk
       have hml : (gs.map fun g => partOf g x.1 x.2).length = gs.length := List.length_map _
       refine ql_r (r_ld (id := 9) rfl rfl rfl sc110) rfl ?_
       refine ql_r (r_move rfl) rfl ?_
       refine ql_ixo (id := 3009) encPart _ rfl rfl rfl rfl sl110 (by omega) (by omega) rfl fun x60 hx60 => ?_
       try simp only [Int.toNat_natCast] at hx60
       try simp only [Int.toNat_natCast] at hx60
       have h60 : x60 = partOf g x.1 x.2 := by
         rw [List.getElem?_map, hgi] at hx60
         exact (Option.some.inj hx60).symm
       refine ql_r (r_faO (id := 3009) rfl rfl rfl hx60 fl112_0) rfl ?_
       refine ql_r (r_ldw rfl (fun w1 hb1 hs1 hB1 => ld_ownF (id := 3009) (o := 0) hs1 rfl rfl sc3 hx60 rfl)) rfl ?_
       refine ql_r (r_fa (o' := 0) rfl fl73_0 rfl) rfl ?_
       refine ql_r (r_ld (id := 8) rfl rfl rfl sc3) rfl ?_
       refine ql_r (r_fa (o' := 0) rfl fl73_0 rfl) rfl ?_
       refine ql_r (r_ld (id := 7) rfl rfl rfl sc3) rfl ?_
       refine ql_r (r_sub rfl rfl (by omega)) rfl ?_
       refine ql_r (r_mul rfl rfl (by omega)) rfl ?_
       refine ql_r (r_ld (id := 9) rfl rfl rfl sc110) rfl ?_
       refine ql_r (r_move rfl) rfl ?_
       refine ql_ixo (id := 3009) encPart _ rfl rfl rfl rfl sl110 (by omega) (by omega) rfl fun x71 hx71 => ?_
       try simp only [Int.toNat_natCast] at hx71
       try simp only [Int.toNat_natCast] at hx71
       refine ql_r (r_faO (id := 3009) rfl rfl rfl hx71 fl112_1) rfl ?_
       refine ql_r (r_ldw rfl (fun w1 hb1 hs1 hB1 => ld_ownF (id := 3009) (o := 1) hs1 rfl rfl sc3 hx71 rfl)) rfl ?_
       have h71 : x71 = partOf g x.1 x.2 := by
         rw [List.getElem?_map, hgi] at hx71
         exact (Option.some.inj hx71).symm
       rw [h60, h71]
       refine ql_call rfl rfl cb66 rfl (fun w1 hb1 hs1 hB1 => quant_ScaleD _ _ _ _ (by omega) (by omega) (by omega) (by omega)) ?_
       refine ql_r (r_move rfl) rfl ?_
       refine ql_r (r_extract rfl rfl) rfl ?_
       refine ql_r (r_extract rfl rfl) rfl ?_
       refine ql_r (r_assign rfl) rfl ?_
       refine ql_r (r_assign rfl) rfl ?_
       refine ql_nil (to_k0 (fun _ _ h => h) (hK28 _ _ _ _ _ ?_))
       clear hK28
       refine wp_reg ?_
       refine ol_r (r_ld (id := 5) rfl rfl rfl sc30) rfl ?_
       refine ol_r (r_move rfl) rfl ?_
       refine ol_r (r_ld (id := 6) rfl rfl rfl sc3) rfl ?_
       refine ol_r (r_fa (o' := 0) rfl fl73_0 rfl) rfl ?_
       refine ol_r (r_ld (id := 7) rfl rfl rfl sc3) rfl ?_
       refine ol_r (r_mul rfl rfl (by omega)) rfl ?_
       refine ol_r (r_move rfl) rfl ?_
       refine ol_r (r_add rfl rfl (by omega)) rfl ?_
       refine ol_r (r_build rfl (fun _ => bd36_0_1_2 _ _ _ _)) rfl ?_
       refine ol_bs1 86 rfl rfl rw30 rfl rfl rfl fun a86 => ?_
       refine ol_append1 (id := 3005) (id2 := 86) rfl rfl rfl rfl rfl rw30 (by omega) rfl fun a87 c87 => ?_
       refine ol_store (id := 5) rfl rfl rfl rfl sz30 rfl rfl (by first | decide | exact Nat.zero_lt_succ _ | simp) ?_
       refine ol_nil (to_k0 (fun _ _ h => h) (hK26 _ _ _ _ _ ?_))
       clear hK26
       refine wp_reg ?_
       refine ol_r (r_add rfl rfl (by omega)) rfl ?_
       refine ol_r (r_move rfl) rfl ?_
       refine ol_nil (to_k0 (fun _ _ h => h) (hK23 ((t + 1, _, _, _)) _ _ ?_ ?_ (sub_cons rfl sub_nil) (sub_cons rfl (sub_cons rfl (sub_cons rfl (sub_cons rfl (sub_cons rfl (sub_cons rfl (sub_cons rfl (sub_cons rfl sub_nil)))))))) (by exact (subH_blk rfl (sub_cons rfl sub_nil) (subH_row rfl (by dsimp only; (rw [take_succ_get hx55, List.map_append, ← List.append_assoc, Enc.enc_append, List.map_cons, List.map_nil, crossOf_eq hgi]; rfl)) subH_nil))) (subH_same rfl (subH_same rfl (subH_same rfl (subH_same rfl (subH_same rfl (subH_same rfl (subH_same rfl (subH_same rfl (subH_same rfl subH_nil)))))))))))
       ·try dsimp only
        exact ⟨by omega, by omega⟩
       ·try dsimp only
        omega
      ·refine wp_exit' (to_k0 (fun _ _ h => h) (hK21 _ _ _ _ _ ?_))
       clear hK21
       refine wp_reg ?_
       refine ol_r (r_ld (id := 6) rfl rfl rfl sc3) rfl ?_
       refine ol_r (r_add rfl rfl (by omega)) rfl ?_
       refine ol_store (id := 6) rfl rfl rfl rfl sz3 rfl rfl (by first | decide | exact Nat.zero_lt_succ _ | simp) ?_
       refine ol_nil (QP.of (hn ((_, _, _)) _ _ ?_ (by exact (subH_blk rfl (sub_cons rfl sub_nil) (subH_blk rfl (sub_cons rfl sub_nil) (subH_row rfl (by (rw [crossS_succ hx, List.take_of_length_le (show (gOrd gs x.1 x.2 gs.length).length ≤ t by rw [gOrd_len]; omega)])) subH_nil)))) (subH_same rfl (subH_same rfl (subH_same rfl subH_nil)))) (fun _ _ h => h))
       try dsimp only
       omega
  ·rintro s dd hI
   refine (to_k0 (fun _ _ h => h) (hK4 _ _ _ _ _ ?_))
   clear hK4
   refine wp_seq' fun K29 hK29 => ?_
   refine wp_reg ?_
   refine ol_r (r_ld (id := 5) rfl rfl rfl sc30) rfl ?_
   refine ol_r (r_assign rfl) rfl ?_
   refine ol_nil (to_k0 (fun _ _ h => h) (hK29 _ _ _ _ _ ?_))
   clear hK29
   refine hQ.ret (rvs1 (rv_t rfl)) (fun _ _ h => h) fun w hb hs hB hkd => ?_
   exact ⟨_, _, _, rfl, hb, hs.ok 3005 _ rfl⟩
  ·exact fun t dd hI => hI.elim
theorem ref5_pointC (p : SmpR) (w : World) : Calls Try.prog 39 #[.agg #[.int .i64 p.at_, .int .i64 p.x, .int .i64 p.y, .int .i64 p.z, .int .i64 p.pulse, .int .i64 p.power, .int .i64 p.steps]] w fun e w' => e = .returned (.agg #[.int .i64 p.x, .int .i64 p.y]) ∧ Below w.heap.size w w' := by
  refine enterQ (N := 8) (C := fun _ => True) (H := []) (B := w.heap.size) (args := [_]) Try.func39 rfl rfl rfl (Nat.le_refl _) (Sat.nil _ _) fun Q hQ => ?_
  refine wp_seq' fun K1 hK1 => ?_
  refine wp_reg ?_
  refine ol_box 1 rfl rfl rfl fun b1 => ?_
  refine ol_alloc 2 z62 rfl fun b2 => ?_
  refine ol_nil (to_k0 (fun _ _ h => h) (hK1 _ _ _ _ _ ?_))
  clear hK1
  refine wp_seq' fun K2 hK2 => ?_
  refine wp_reg ?_
  refine ol_r (r_fa (o' := 1) rfl fl73_1 rfl) rfl ?_
  refine ol_r (r_ld (id := 1) rfl rfl rfl sc3) rfl ?_
  refine ol_r (r_fa (o' := 2) rfl fl73_2 rfl) rfl ?_
  refine ol_r (r_ld (id := 1) rfl rfl rfl sc3) rfl ?_
  refine ol_r (r_build rfl (fun _ => bd62_0_1 _ _ _)) rfl ?_
  refine ol_store (id := 2) rfl rfl rfl rfl sz62 rfl rfl (by first | decide | exact Nat.zero_lt_succ _ | simp) ?_
  refine ol_nil (to_k0 (fun _ _ h => h) (hK2 _ _ _ _ _ ?_))
  clear hK2
  refine hQ.ret (rvs1 (rv_c (id := 2) (n := 2) rfl rfl ag62 rfl)) (fun _ _ h => h) fun w hb hs hB hkd => ?_
  exact ⟨rfl, hb⟩
theorem ref5_side (ax ay bx by_ x y : Int) (w : World) (h1 : -100000000 ≤ ax ∧ ax ≤ 100000000) (h2 : -100000000 ≤ ay ∧ ay ≤ 100000000) (h3 : -100000000 ≤ bx ∧ bx ≤ 100000000) (h4 : -100000000 ≤ by_ ∧ by_ ≤ 100000000) (h5 : -100000000 ≤ x ∧ x ≤ 100000000) (h6 : -100000000 ≤ y ∧ y ≤ 100000000) :
    Calls Try.prog 40 #[.agg #[.int .i64 ax, .int .i64 ay], .agg #[.int .i64 bx, .int .i64 by_], .agg #[.int .i64 x, .int .i64 y]] w fun e w' => e = .returned (.int .i64 (side6 ax ay bx by_ x y)) ∧ Below w.heap.size w w' := by
  have m1 := mul_ab (a := bx - ax) (b := y - ay) (by omega) (by omega)
  have m2 := mul_ab (a := by_ - ay) (b := x - ax) (by omega) (by omega)
  refine enterQ (N := 30) (C := fun _ => True) (H := []) (B := w.heap.size) (args := [_, _, _]) Try.func40 rfl rfl rfl (Nat.le_refl _) (Sat.nil _ _) fun Q hQ => ?_
  refine wp_seq' fun K1 hK1 => ?_
  refine wp_reg ?_
  refine ol_box 3 rfl rfl rfl fun b3 => ?_
  refine ol_box 4 rfl rfl rfl fun b4 => ?_
  refine ol_box 5 rfl rfl rfl fun b5 => ?_
  refine ol_r (r_assign rfl) rfl ?_
  refine ol_nil (to_k0 (fun _ _ h => h) (hK1 _ _ _ _ _ ?_))
  clear hK1
  refine wp_seq' fun K2 hK2 => ?_
  refine wp_reg ?_
  refine ol_r (r_fa (o' := 0) rfl fl62_0 rfl) rfl ?_
  refine ol_r (r_ld (id := 4) rfl rfl rfl sc3) rfl ?_
  refine ol_r (r_fa (o' := 0) rfl fl62_0 rfl) rfl ?_
  refine ol_r (r_ld (id := 3) rfl rfl rfl sc3) rfl ?_
  refine ol_r (r_sub rfl rfl (by omega)) rfl ?_
  refine ol_r (r_fa (o' := 1) rfl fl62_1 rfl) rfl ?_
  refine ol_r (r_ld (id := 5) rfl rfl rfl sc3) rfl ?_
  refine ol_r (r_fa (o' := 1) rfl fl62_1 rfl) rfl ?_
  refine ol_r (r_ld (id := 3) rfl rfl rfl sc3) rfl ?_
  refine ol_r (r_sub rfl rfl (by omega)) rfl ?_
  refine ol_r (r_mul rfl rfl (by omega)) rfl ?_
  refine ol_r (r_fa (o' := 1) rfl fl62_1 rfl) rfl ?_
  refine ol_r (r_ld (id := 4) rfl rfl rfl sc3) rfl ?_
  refine ol_r (r_fa (o' := 1) rfl fl62_1 rfl) rfl ?_
  refine ol_r (r_ld (id := 3) rfl rfl rfl sc3) rfl ?_
  refine ol_r (r_sub rfl rfl (by omega)) rfl ?_
  refine ol_r (r_fa (o' := 0) rfl fl62_0 rfl) rfl ?_
  refine ol_r (r_ld (id := 5) rfl rfl rfl sc3) rfl ?_
  refine ol_r (r_fa (o' := 0) rfl fl62_0 rfl) rfl ?_
  refine ol_r (r_ld (id := 3) rfl rfl rfl sc3) rfl ?_
  refine ol_r (r_sub rfl rfl (by omega)) rfl ?_
  refine ol_r (r_mul rfl rfl (by omega)) rfl ?_
  refine ol_r (r_sub rfl rfl (by omega)) rfl ?_
  refine ol_r (r_assign rfl) rfl ?_
  refine ol_nil (to_k0 (fun _ _ h => h) (hK2 _ _ _ _ _ ?_))
  clear hK2
  refine hQ.ret (rvs1 (rv_t rfl)) (fun _ _ h => h) fun w hb hs hB hkd => ?_
  exact ⟨rfl, hb⟩
theorem ref5_crosses (g : GateR) (p q : SmpR) (w : World) (hg : ∀ o, fG o g = 0) (hp : PlaceOk p) (hq : PlaceOk q) :
    Calls Try.prog 38 #[encGate.val g, .agg #[.int .i64 p.x, .int .i64 p.y], .agg #[.int .i64 q.x, .int .i64 q.y]] w fun e w' => e = .returned (.bool (crB g p q)) ∧ Below w.heap.size w w' := by
  obtain ⟨⟨g1, g2⟩, g3, g4⟩ := gate_bd hg
  obtain ⟨p1, p2⟩ := hp
  obtain ⟨q1, q2⟩ := hq
  have b1 := side6_bd g1 g2 g3 g4 p1 p2
  have b2 := side6_bd g1 g2 g3 g4 q1 q2
  refine enterQ (N := 51) (C := fun _ => True) (H := []) (B := w.heap.size) (args := [_, _, _]) Try.func38 rfl rfl rfl (Nat.le_refl _) (Sat.nil _ _) fun Q hQ => ?_
  refine wp_seq' fun K1 hK1 => ?_
  refine wp_reg ?_
  refine ol_box 3 rfl rfl rfl fun b3 => ?_
  refine ol_box 4 rfl rfl rfl fun b4 => ?_
  refine ol_box 5 rfl rfl rfl fun b5 => ?_
  refine ol_r (r_assign rfl) rfl ?_
  refine ol_nil (to_k0 (fun _ _ h => h) (hK1 _ _ _ _ _ ?_))
  clear hK1
  refine wp_seq' fun K2 hK2 => ?_
  refine wp_seq' fun K3 hK3 => ?_
  refine wp_reg ?_
  refine ol_r (r_fa (o' := 0) rfl fl75_0 rfl) rfl ?_
  refine ol_r (r_lda (id := 3) (n := 2) rfl rfl rfl ag62) rfl ?_
  refine ol_r (r_fa (o' := 2) rfl fl75_1 rfl) rfl ?_
  refine ol_r (r_lda (id := 3) (n := 2) rfl rfl rfl ag62) rfl ?_
  refine ol_r (r_lda (id := 4) (n := 2) rfl rfl rfl ag62) rfl ?_
  refine ol_call rfl rfl cb40 rfl (fun w1 hb1 hs1 hB1 => Calls.mono (ref5_side _ _ _ _ _ _ _ (by assumption) (by assumption) (by assumption) (by assumption) (by assumption) (by assumption)) ?_)
  rintro e w2 ⟨rfl, hb2⟩
  refine After.below rfl hb1 hs1 hB1 hb2 ?_
  clear hb2 hB1 hs1 hb1 w2 w1
  refine ol_r (r_geq rfl rfl) rfl ?_
  refine ol_r (r_move rfl) rfl ?_
  refine ol_split (d := 16) rfl (fun hs16 => ?_) (fun hs16 => ?_)
  ·have phs16 := hs16; try simp only [decide_eq_true_eq, decide_eq_false_iff_not, Bool.not_eq_true', Bool.not_eq_false', Bool.not_true, Bool.not_false] at phs16
   refine ol_s rfl rfl hs16 rfl ?_
   refine ol_s rfl rfl hs16 rfl ?_
   refine ol_s rfl rfl hs16 rfl ?_
   refine ol_s rfl rfl hs16 rfl ?_
   refine ol_s rfl rfl hs16 rfl ?_
   refine ol_s rfl rfl hs16 rfl ?_
   refine ol_s rfl rfl hs16 rfl ?_
   refine ol_r (r_pickT rfl hs16 rfl) rfl ?_
   refine ol_nil (to_k0 (fun _ _ h => h) (hK3 _ _ _ _ _ ?_))
   clear hK3
   refine wp_condT rfl ?_
   refine wp_seq' fun K4 hK4 => ?_
   refine wp_reg ?_
   refine ol_r (r_assign rfl) rfl ?_
   refine ol_nil (to_k0 (fun _ _ h => h) (hK4 _ _ _ _ _ ?_))
   clear hK4
   refine hQ.ret (rvs1 (rv_t rfl)) (fun _ _ h => h) fun w hb hs hB hkd => ?_
   have hc : crB g p q = false := by
     unfold crB gSide
     simp only [Bool.and_eq_false_iff, Bool.not_eq_false', Bool.or_eq_true, Bool.and_eq_true, decide_eq_true_eq]
     omega
   exact ⟨by rw [hc], hb⟩
  ·have phs16 := hs16; try simp only [decide_eq_true_eq, decide_eq_false_iff_not, Bool.not_eq_true', Bool.not_eq_false', Bool.not_true, Bool.not_false] at phs16
   refine ol_g rfl rfl hs16 ?_
   refine ol_r (r_fa (o' := 0) rfl fl75_0 rfl) rfl ?_
   refine ol_g rfl rfl hs16 ?_
   refine ol_r (r_lda (id := 3) (n := 2) rfl rfl rfl ag62) rfl ?_
   refine ol_g rfl rfl hs16 ?_
   refine ol_r (r_fa (o' := 2) rfl fl75_1 rfl) rfl ?_
   refine ol_g rfl rfl hs16 ?_
   refine ol_r (r_lda (id := 3) (n := 2) rfl rfl rfl ag62) rfl ?_
   refine ol_g rfl rfl hs16 ?_
   refine ol_r (r_lda (id := 5) (n := 2) rfl rfl rfl ag62) rfl ?_
   refine ol_g rfl rfl hs16 ?_
   refine ol_call rfl rfl cb40 rfl (fun w1 hb1 hs1 hB1 => Calls.mono (ref5_side _ _ _ _ _ _ _ (by assumption) (by assumption) (by assumption) (by assumption) (by assumption) (by assumption)) ?_)
   rintro e w2 ⟨rfl, hb2⟩
   refine After.below rfl hb1 hs1 hB1 hb2 ?_
   clear hb2 hB1 hs1 hb1 w2 w1
   refine ol_g rfl rfl hs16 ?_
   refine ol_r (r_lss rfl rfl) rfl ?_
   refine ol_r (r_pickF rfl hs16 rfl) rfl ?_
   refine ol_nil (to_k0 (fun _ _ h => h) (hK3 _ _ _ _ _ ?_))
   clear hK3
   refine wp_condD rfl (fun hc24 => ?_) (fun hc24 => ?_)
   ·refine wp_seq' fun K5 hK5 => ?_
    refine wp_reg ?_
    refine ol_r (r_assign rfl) rfl ?_
    refine ol_nil (to_k0 (fun _ _ h => h) (hK5 _ _ _ _ _ ?_))
    clear hK5
    refine hQ.ret (rvs1 (rv_t rfl)) (fun _ _ h => h) fun w hb hs hB hkd => ?_
    have hc : crB g p q = false := by
      unfold crB gSide
      simp only [Bool.and_eq_false_iff, Bool.not_eq_false', Bool.or_eq_true, Bool.and_eq_true, decide_eq_true_eq]
      omega
    exact ⟨by rw [hc], hb⟩
   ·refine wp_skip' (to_k0 (fun _ _ h => h) (hK2 _ _ _ _ _ ?_))
    clear hK2
    refine wp_seq' fun K6 hK6 => ?_
    refine wp_regq (by kernel_rfl) (by kernel_rfl) ?_
    refine ql_r (r_lda (id := 4) (n := 2) rfl rfl rfl ag62) rfl ?_
    refine ql_r (r_lda (id := 5) (n := 2) rfl rfl rfl ag62) rfl ?_
    refine ql_r (r_fa (o' := 0) rfl fl75_0 rfl) rfl ?_
    refine ql_r (r_lda (id := 3) (n := 2) rfl rfl rfl ag62) rfl ?_
    refine ql_call rfl rfl cb40 rfl (fun w1 hb1 hs1 hB1 => ref5_side _ _ _ _ _ _ _ (by assumption) (by assumption) (by assumption) (by assumption) (by assumption) (by assumption)) ?_
    refine ql_r (r_lda (id := 4) (n := 2) rfl rfl rfl ag62) rfl ?_
    refine ql_r (r_lda (id := 5) (n := 2) rfl rfl rfl ag62) rfl ?_
    refine ql_r (r_fa (o' := 2) rfl fl75_1 rfl) rfl ?_
    refine ql_r (r_lda (id := 3) (n := 2) rfl rfl rfl ag62) rfl ?_
    refine ql_call rfl rfl cb40 rfl (fun w1 hb1 hs1 hB1 => ref5_side _ _ _ _ _ _ _ (by assumption) (by assumption) (by assumption) (by assumption) (by assumption) (by assumption)) ?_
    refine ql_r (r_assign rfl) rfl ?_
    refine ql_r (r_assign rfl) rfl ?_
    refine ql_nil (to_k0 (fun _ _ h => h) (hK6 _ _ _ _ _ ?_))
    clear hK6
    refine wp_seq' fun K7 hK7 => ?_
    refine wp_reg ?_
    refine ol_r (r_move rfl) rfl ?_
    refine ol_r (r_gtr rfl rfl) rfl ?_
    refine ol_r (r_move rfl) rfl ?_
    refine ol_split (d := 37) rfl (fun hs37 => ?_) (fun hs37 => ?_)
    ·have phs37 := hs37; try simp only [decide_eq_true_eq, decide_eq_false_iff_not, Bool.not_eq_true', Bool.not_eq_false', Bool.not_true, Bool.not_false] at phs37
     refine ol_g rfl rfl hs37 ?_
     refine ol_r (r_move rfl) rfl ?_
     refine ol_g rfl rfl hs37 ?_
     refine ol_r (r_gtr rfl rfl) rfl ?_
     refine ol_r (r_pickT rfl hs37 rfl) rfl ?_
     refine ol_r (r_not rfl) rfl ?_
     refine ol_r (r_move rfl) rfl ?_
     refine ol_split (d := 42) rfl (fun hs42 => ?_) (fun hs42 => ?_)
     ·have phs42 := hs42; try simp only [decide_eq_true_eq, decide_eq_false_iff_not, Bool.not_eq_true', Bool.not_eq_false', Bool.not_true, Bool.not_false] at phs42
      refine ol_g rfl rfl hs42 ?_
      refine ol_r (r_move rfl) rfl ?_
      refine ol_g rfl rfl hs42 ?_
      refine ol_r (r_lss rfl rfl) rfl ?_
      refine ol_g rfl rfl hs42 ?_
      refine ol_r (r_move rfl) rfl ?_
      refine ol_split (d := 45) rfl (fun hs45 => ?_) (fun hs45 => ?_)
      ·have phs45 := hs45; try simp only [decide_eq_true_eq, decide_eq_false_iff_not, Bool.not_eq_true', Bool.not_eq_false', Bool.not_true, Bool.not_false] at phs45
       refine ol_g rfl rfl hs45 ?_
       refine ol_r (r_move rfl) rfl ?_
       refine ol_g rfl rfl hs45 ?_
       refine ol_r (r_lss rfl rfl) rfl ?_
       refine ol_g rfl rfl hs42 ?_
       refine ol_r (r_pickT rfl hs45 rfl) rfl ?_
       refine ol_g rfl rfl hs42 ?_
       refine ol_r (r_not rfl) rfl ?_
       refine ol_r (r_pickT rfl hs42 rfl) rfl ?_
       refine ol_r (r_assign rfl) rfl ?_
       refine ol_nil (to_k0 (fun _ _ h => h) (hK7 _ _ _ _ _ ?_))
       clear hK7
       refine hQ.ret (rvs1 (rv_t rfl)) (fun _ _ h => h) fun w hb hs hB hkd => ?_
       refine ⟨congrArg (fun b => Ending.returned (Value.bool b)) ?_, hb⟩
       rw [Bool.eq_iff_iff]
       unfold crB gSide
       simp only [Bool.and_eq_true, Bool.not_eq_true', Bool.or_eq_false_iff, Bool.and_eq_false_iff, decide_eq_false_iff_not, decide_eq_true_eq, Bool.not_true, Bool.false_eq_true, false_iff, Bool.not_eq_false', Bool.not_false, true_iff, Bool.or_eq_true]
       omega
      ·have phs45 := hs45; try simp only [decide_eq_true_eq, decide_eq_false_iff_not, Bool.not_eq_true', Bool.not_eq_false', Bool.not_true, Bool.not_false] at phs45
       refine ol_s rfl rfl hs45 rfl ?_
       refine ol_s rfl rfl hs45 rfl ?_
       refine ol_g rfl rfl hs42 ?_
       refine ol_r (r_pickF rfl hs45 rfl) rfl ?_
       refine ol_g rfl rfl hs42 ?_
       refine ol_r (r_not rfl) rfl ?_
       refine ol_r (r_pickT rfl hs42 rfl) rfl ?_
       refine ol_r (r_assign rfl) rfl ?_
       refine ol_nil (to_k0 (fun _ _ h => h) (hK7 _ _ _ _ _ ?_))
       clear hK7
       refine hQ.ret (rvs1 (rv_t rfl)) (fun _ _ h => h) fun w hb hs hB hkd => ?_
       refine ⟨congrArg (fun b => Ending.returned (Value.bool b)) ?_, hb⟩
       rw [Bool.eq_iff_iff]
       unfold crB gSide
       simp only [Bool.and_eq_true, Bool.not_eq_true', Bool.or_eq_false_iff, Bool.and_eq_false_iff, decide_eq_false_iff_not, decide_eq_true_eq, Bool.not_true, Bool.false_eq_true, false_iff, Bool.not_eq_false', Bool.not_false, true_iff, Bool.or_eq_true]
       omega
     ·have phs42 := hs42; try simp only [decide_eq_true_eq, decide_eq_false_iff_not, Bool.not_eq_true', Bool.not_eq_false', Bool.not_true, Bool.not_false] at phs42
      refine ol_s rfl rfl hs42 rfl ?_
      refine ol_s rfl rfl hs42 rfl ?_
      refine ol_s rfl rfl hs42 rfl ?_
      refine ol_u rfl rfl rfl ?_
      refine ol_u rfl rfl rfl ?_
      refine ol_s rfl rfl hs42 rfl ?_
      refine ol_s rfl rfl hs42 rfl ?_
      refine ol_r (r_pickF rfl hs42 rfl) rfl ?_
      refine ol_r (r_assign rfl) rfl ?_
      refine ol_nil (to_k0 (fun _ _ h => h) (hK7 _ _ _ _ _ ?_))
      clear hK7
      refine hQ.ret (rvs1 (rv_t rfl)) (fun _ _ h => h) fun w hb hs hB hkd => ?_
      refine ⟨congrArg (fun b => Ending.returned (Value.bool b)) ?_, hb⟩
      rw [Bool.eq_iff_iff]
      unfold crB gSide
      simp only [Bool.and_eq_true, Bool.not_eq_true', Bool.or_eq_false_iff, Bool.and_eq_false_iff, decide_eq_false_iff_not, decide_eq_true_eq, Bool.not_true, Bool.false_eq_true, false_iff, Bool.not_eq_false', Bool.not_false, true_iff, Bool.or_eq_true]
      omega
    ·have phs37 := hs37; try simp only [decide_eq_true_eq, decide_eq_false_iff_not, Bool.not_eq_true', Bool.not_eq_false', Bool.not_true, Bool.not_false] at phs37
     refine ol_s rfl rfl hs37 rfl ?_
     refine ol_s rfl rfl hs37 rfl ?_
     refine ol_r (r_pickF rfl hs37 rfl) rfl ?_
     refine ol_r (r_not rfl) rfl ?_
     refine ol_r (r_move rfl) rfl ?_
     refine ol_g rfl rfl rfl ?_
     refine ol_r (r_move rfl) rfl ?_
     refine ol_g rfl rfl rfl ?_
     refine ol_r (r_lss rfl rfl) rfl ?_
     refine ol_g rfl rfl rfl ?_
     refine ol_r (r_move rfl) rfl ?_
     refine ol_split (d := 45) rfl (fun hs45 => ?_) (fun hs45 => ?_)
     ·have phs45 := hs45; try simp only [decide_eq_true_eq, decide_eq_false_iff_not, Bool.not_eq_true', Bool.not_eq_false', Bool.not_true, Bool.not_false] at phs45
      refine ol_g rfl rfl hs45 ?_
      refine ol_r (r_move rfl) rfl ?_
      refine ol_g rfl rfl hs45 ?_
      refine ol_r (r_lss rfl rfl) rfl ?_
      refine ol_g rfl rfl rfl ?_
      refine ol_r (r_pickT rfl hs45 rfl) rfl ?_
      refine ol_g rfl rfl rfl ?_
      refine ol_r (r_not rfl) rfl ?_
      refine ol_r (r_pickT rfl rfl rfl) rfl ?_
      refine ol_r (r_assign rfl) rfl ?_
      refine ol_nil (to_k0 (fun _ _ h => h) (hK7 _ _ _ _ _ ?_))
      clear hK7
      refine hQ.ret (rvs1 (rv_t rfl)) (fun _ _ h => h) fun w hb hs hB hkd => ?_
      refine ⟨congrArg (fun b => Ending.returned (Value.bool b)) ?_, hb⟩
      rw [Bool.eq_iff_iff]
      unfold crB gSide
      simp only [Bool.and_eq_true, Bool.not_eq_true', Bool.or_eq_false_iff, Bool.and_eq_false_iff, decide_eq_false_iff_not, decide_eq_true_eq, Bool.not_true, Bool.false_eq_true, false_iff, Bool.not_eq_false', Bool.not_false, true_iff, Bool.or_eq_true]
      omega
     ·have phs45 := hs45; try simp only [decide_eq_true_eq, decide_eq_false_iff_not, Bool.not_eq_true', Bool.not_eq_false', Bool.not_true, Bool.not_false] at phs45
      refine ol_s rfl rfl hs45 rfl ?_
      refine ol_s rfl rfl hs45 rfl ?_
      refine ol_g rfl rfl rfl ?_
      refine ol_r (r_pickF rfl hs45 rfl) rfl ?_
      refine ol_g rfl rfl rfl ?_
      refine ol_r (r_not rfl) rfl ?_
      refine ol_r (r_pickT rfl rfl rfl) rfl ?_
      refine ol_r (r_assign rfl) rfl ?_
      refine ol_nil (to_k0 (fun _ _ h => h) (hK7 _ _ _ _ _ ?_))
      clear hK7
      refine hQ.ret (rvs1 (rv_t rfl)) (fun _ _ h => h) fun w hb hs hB hkd => ?_
      refine ⟨congrArg (fun b => Ending.returned (Value.bool b)) ?_, hb⟩
      rw [Bool.eq_iff_iff]
      unfold crB gSide
      simp only [Bool.and_eq_true, Bool.not_eq_true', Bool.or_eq_false_iff, Bool.and_eq_false_iff, decide_eq_false_iff_not, decide_eq_true_eq, Bool.not_true, Bool.false_eq_true, false_iff, Bool.not_eq_false', Bool.not_false, true_iff, Bool.or_eq_true]
      omega
theorem sw_map {α : Type} (h : Int → α) (L : List α) {n i j : Nat} {G : Nat → Int} {x y : α} {u v : Int} (hi : i < n) (hj : j < n) (hu : u.toNat = L.length + i) (hv : v.toNat = L.length + j) (hx : ∃ k, k = L.length + j ∧ (L ++ (tab n G).map h)[k]? = some x) (hy : ∃ k, k = L.length + i ∧ (L ++ (tab n G).map h)[k]? = some y) :
    ((L ++ (tab n G).map h).set u.toNat x).set v.toNat y = L ++ (tab n (sw2 G i j)).map h := by
  obtain ⟨_, rfl, hx⟩ := hx
  obtain ⟨_, rfl, hy⟩ := hy
  rw [List.getElem?_append_right (Nat.le_add_right _ _), Nat.add_sub_cancel_left, List.getElem?_map, tab_at hj] at hx
  rw [List.getElem?_append_right (Nat.le_add_right _ _), Nat.add_sub_cancel_left, List.getElem?_map, tab_at hi] at hy
  cases hx; cases hy
  rw [hu, hv, List.set_append_right _ _ (Nat.le_add_right _ _), List.set_append_right _ _ (Nat.le_add_right _ _), Nat.add_sub_cancel_left, Nat.add_sub_cancel_left, ← List.map_set, ← List.map_set, tab_sw2 G hi hj]
theorem ins_last {F : Nat → Int} {n : Nat} {x : Int} {h : List Int} (hl : tab n F = h) : tab (n + 1) (fun i => if i < n then F i else x) = h ++ [x] := by rw [← hl, tab_snoc]
def crossR (nm : ByteArray) (gs : List GateR) (d : ActD) : List CrossR × Int := if orL [chkSeg nm gs, chkA d] ≠ 0 then ([], orL [chkSeg nm gs, chkA d]) else (crossS gs (stepsL d.ss) (stepsL d.ss).length, 0)
theorem or_both {nm : ByteArray} {gs : List GateR} {A : ActV} (h : ¬orL [chkSeg nm gs, chkA A.d] ≠ 0) : SegOk nm gs ∧ SmpOk A.start A.ss := by
  have h0 := Decidable.not_not.1 h
  unfold orL orL orL at h0
  by_cases h1 : chkSeg nm gs ≠ 0
  · rw [if_pos h1] at h0; exact absurd h0 h1
  · rw [if_neg h1] at h0
    refine ⟨segOk (Decidable.not_not.1 h1), ?_⟩
    by_cases h2 : chkA A.d ≠ 0
    · rw [if_pos h2] at h0; exact absurd h0 h2
    · exact (goodA (Decidable.not_not.1 h2)).smp
theorem ref5_checkBoth (nm : ByteArray) (ga : Option Addr) (gn gc : Nat) (gs : List GateR) (A : ActV) (w : World) (hn : nm.size ≤ 9223372036854775807) (hS : Rd encGate w.heap.size w ga gn gc gs) (hA : A.Ok w.heap.size w) :
    Calls Try.prog 37 #[.agg #[.string nm, .slice ga gn gc], .agg #[.string A.name, .int .i64 A.sport, .int .i64 A.start, .slice A.sa A.sn A.sc, .slice A.la A.ln A.lc, .slice A.ta A.tn A.tc]] w fun e w' => e = .returned (.int .i64 (orL [chkSeg nm gs, chkA A.d])) ∧ Below w.heap.size w w' := by
  refine enterQ (N := 13) (C := fun _ => True) (H := []) (B := w.heap.size) (args := [_, _]) Try.func37 rfl rfl rfl (Nat.le_refl _) (Sat.nil _ _) fun Q hQ => ?_
  refine wp_seq' fun K1 hK1 => ?_
  refine wp_reg ?_
  refine ol_box 2 rfl rfl rfl fun b2 => ?_
  refine ol_box 3 rfl rfl rfl fun b3 => ?_
  refine ol_r (r_assign rfl) rfl ?_
  refine ol_nil (to_k0 (fun _ _ h => h) (hK1 _ _ _ _ _ ?_))
  clear hK1
  refine wp_seq' fun K2 hK2 => ?_
  refine wp_seq' fun K3 hK3 => ?_
  refine wp_reg ?_
  refine ol_r (r_lda (id := 2) (n := 2) rfl rfl rfl ag24) rfl ?_
  refine ol_call rfl rfl cb16 rfl (fun w1 hb1 hs1 hB1 => Calls.mono (ref5_CheckSegment nm _ _ _ gs _ hn (hS.at hb1 hB1)) ?_)
  rintro e w2 ⟨rfl, hb2⟩
  refine After.below rfl hb1 hs1 hB1 hb2 ?_
  clear hb2 hB1 hs1 hb1 w2 w1
  refine ol_r (r_assign rfl) rfl ?_
  refine ol_nil (to_k0 (fun _ _ h => h) (hK3 _ _ _ _ _ ?_))
  clear hK3
  refine wp_seq' fun K4 hK4 => ?_
  refine wp_reg ?_
  refine ol_r (r_move rfl) rfl ?_
  refine ol_r (r_neq rfl rfl) rfl ?_
  refine ol_nil (to_k0 (fun _ _ h => h) (hK4 _ _ _ _ _ ?_))
  clear hK4
  refine wp_condD rfl (fun hc9 => ?_) (fun hc9 => ?_)
  ·refine wp_seq' fun K5 hK5 => ?_
   refine wp_reg ?_
   refine ol_r (r_move rfl) rfl ?_
   refine ol_r (r_assign rfl) rfl ?_
   refine ol_nil (to_k0 (fun _ _ h => h) (hK5 _ _ _ _ _ ?_))
   clear hK5
   refine hQ.ret (rvs1 (rv_t rfl)) (fun _ _ h => h) fun w hb hs hB hkd => ?_
   exact ⟨by rw [orL, if_pos hc9], hb⟩
  ·refine wp_skip' (to_k0 (fun _ _ h => h) (hK2 _ _ _ _ _ ?_))
   clear hK2
   refine wp_seq' fun K6 hK6 => ?_
   refine wp_reg ?_
   refine ol_r (r_lda (id := 3) (n := 6) rfl rfl rfl ag29) rfl ?_
   refine ol_call rfl rfl cb76 rfl (fun w1 hb1 hs1 hB1 => Calls.mono (ref2_Check A _ (hA.at hb1 hB1)) ?_)
   rintro e w2 ⟨rfl, hb2⟩
   refine After.below rfl hb1 hs1 hB1 hb2 ?_
   clear hb2 hB1 hs1 hb1 w2 w1
   refine ol_r (r_assign rfl) rfl ?_
   refine ol_nil (to_k0 (fun _ _ h => h) (hK6 _ _ _ _ _ ?_))
   clear hK6
   refine hQ.ret (rvs1 (rv_t rfl)) (fun _ _ h => h) fun w hb hs hB hkd => ?_
   refine ⟨?_, hb⟩
   rw [orL, if_neg hc9]
   unfold orL orL
   by_cases h : chkA A.d ≠ 0
   · rw [if_pos h]
   · rw [if_neg h, Decidable.not_not.1 h]
theorem pair_tab {lt : Int → Int → Bool} {n : Nat} {f : Nat → Int} (h : (tab n f).Pairwise (RR lt)) : SoR lt f 0 n := by
  intro i j _ hij hj
  rw [List.pairwise_iff_getElem] at h
  have h2 := h i j (by rw [tab_len]; omega) (by rw [tab_len]; omega) hij
  have e1 := tab_at (f := f) (show i < n by omega)
  have e2 := tab_at (f := f) hj
  rw [List.getElem?_eq_getElem (by rw [tab_len]; omega)] at e1 e2
  rw [Option.some.inj e1, Option.some.inj e2] at h2
  exact h2
theorem bdPair (x0 x1 : Int) (w : World) : (Instr.build 80 #[(0, .int .i64 x0), (1, .int .i64 x1)]).run Try.prog w = .ok (.agg #[.int .i64 x0, .int .i64 x1]) w := by kernel_rfl
theorem ty80 : Ty Try.prog 80 encPart := .inr ⟨ag80, fun _ => rfl⟩
theorem ref5_Crossings (nm : ByteArray) (ga : Option Addr) (gn gc : Nat) (gs : List GateR) (A : ActV) (w : World) (hn : nm.size ≤ 9223372036854775807) (hS : Rd encGate w.heap.size w ga gn gc gs) (hA : A.Ok w.heap.size w) :
    Calls Try.prog 10 #[.agg #[.string nm, .slice ga gn gc], .agg #[.string A.name, .int .i64 A.sport, .int .i64 A.start, .slice A.sa A.sn A.sc, .slice A.la A.ln A.lc, .slice A.ta A.tn A.tc]] w fun e w' => ∃ b m k, e = .returned (.tuple #[.slice b m k, .int .i64 (crossR nm gs A.d).2]) ∧ Fresh encCr 36 w w' b m k (crossR nm gs A.d).1 := by
  have hgn := hS.len
  have hsn := hA.s.len
  have hsf := hA.s.fit
  have hlen := stepsL_len A.ss
  refine enterQ (N := 177) (C := fun _ => True) (H := []) (B := w.heap.size) (args := [_, _]) Try.func10 rfl rfl rfl (Nat.le_refl _) (Sat.nil _ _) fun Q hQ => ?_
  refine wp_seq' fun K1 hK1 => ?_
  refine wp_reg ?_
  refine ol_box 2 rfl rfl rfl fun b2 => ?_
  refine ol_box 3 rfl rfl rfl fun b3 => ?_
  refine ol_r (r_assign rfl) rfl ?_
  refine ol_r (r_assign rfl) rfl ?_
  refine ol_nil (to_k0 (fun _ _ h => h) (hK1 _ _ _ _ _ ?_))
  clear hK1
  refine wp_seq' fun K2 hK2 => ?_
  refine wp_seq' fun K3 hK3 => ?_
  refine wp_reg ?_
  refine ol_r (r_lda (id := 2) (n := 2) rfl rfl rfl ag24) rfl ?_
  refine ol_r (r_lda (id := 3) (n := 6) rfl rfl rfl ag29) rfl ?_
  refine ol_call rfl rfl cb37 rfl (fun w1 hb1 hs1 hB1 => Calls.mono (ref5_checkBoth nm _ _ _ gs A _ hn (hS.at hb1 hB1) (hA.at hb1 hB1)) ?_)
  rintro e w2 ⟨rfl, hb2⟩
  refine After.below rfl hb1 hs1 hB1 hb2 ?_
  clear hb2 hB1 hs1 hb1 w2 w1
  refine ol_r (r_assign rfl) rfl ?_
  refine ol_nil (to_k0 (fun _ _ h => h) (hK3 _ _ _ _ _ ?_))
  clear hK3
  refine wp_seq' fun K4 hK4 => ?_
  refine wp_reg ?_
  refine ol_r (r_move rfl) rfl ?_
  refine ol_r (r_neq rfl rfl) rfl ?_
  refine ol_nil (to_k0 (fun _ _ h => h) (hK4 _ _ _ _ _ ?_))
  clear hK4
  refine wp_condD rfl (fun hc24 => ?_) (fun hc24 => ?_)
  ·refine wp_seq' fun K5 hK5 => ?_
   refine wp_reg ?_
   refine ol_r (r_move rfl) rfl ?_
   refine ol_r (r_assign rfl) rfl ?_
   refine ol_r (r_assign rfl) rfl ?_
   refine ol_nil (to_k0 (fun _ _ h => h) (hK5 _ _ _ _ _ ?_))
   clear hK5
   refine hQ.ret (rvs2 (rv_t rfl) (rv_t rfl)) (fun _ _ h => h) fun w hb hs hB hkd => ?_
   exact ⟨none, 0, 0, by rw [crossR, if_pos hc24], by rw [crossR, if_pos hc24]; exact Fresh.nil hb⟩
  ·refine wp_skip' (to_k0 (fun _ _ h => h) (hK2 _ _ _ _ _ ?_))
   clear hK2
   refine wp_seq' fun K6 hK6 => ?_
   refine wp_reg ?_
   refine ol_nilrow 7 36 3 ?_
   refine ol_r (r_assign rfl) rfl ?_
   refine ol_nil (to_k0 (fun _ _ h => h) (hK6 _ _ _ _ _ ?_))
   clear hK6
   refine wp_seq' fun K7 hK7 => ?_
   refine wp_seq' fun K8 hK8 => ?_
   refine wp_reg ?_
   first
     | (have h0 : orL [chkSeg nm gs, chkA A.d] = 0 := Decidable.not_not.1 hc24
        have hch : chkSeg nm gs = 0 ∧ chkA A.d = 0 := by
          unfold orL orL orL at h0
          by_cases h1 : chkSeg nm gs ≠ 0
          · rw [if_pos h1] at h0; exact absurd h0 h1
          · rw [if_neg h1] at h0
            refine ⟨Decidable.not_not.1 h1, ?_⟩
            by_cases h2 : chkA A.d ≠ 0
            · rw [if_pos h2] at h0; exact h0
            · exact Decidable.not_not.1 h2
        have hseg := segOk hch.1
        have hok : SmpOk A.start A.ss := (goodA hch.2).smp
        have hgl := hseg.len
        have hl20 := hok.len)
     | skip
   refine ol_r (r_assign rfl) rfl ?_
   refine ol_nil (to_k0 (fun _ _ h => h) (hK8 _ _ _ _ _ ?_))
   clear hK8
   refine wp_block' ?_
   apply wp_loopM (σ := Nat × Option Addr × Nat × Nat) (fun s => s.1 ≤ (stepsL A.ss).length ∧ s.2.2.1 ≤ 50 * s.1 ∧ (crossS gs (stepsL A.ss) s.1).length = s.2.2.1) (fun s => [(8, .int .i64 ((s.1 : Int) + 1)), (7, .slice s.2.1 s.2.2.1 s.2.2.2)]) [(2, _), (3, _), (4, _), (5, _)] (fun s => [(7, .row s.2.1 s.2.2.1 s.2.2.2 (encCr.enc (crossS gs (stepsL A.ss) s.1)) 36 3)]) [(2, _), (3, _)] (fun s => (stepsL A.ss).length - s.1) ((0, none, 0, 0))
   ·try dsimp only
    exact ⟨Nat.zero_le _, Nat.zero_le _, rfl⟩
   ·exact (sub_cons rfl (sub_cons rfl sub_nil))
   ·exact (sub_cons rfl (sub_cons rfl (sub_cons rfl (sub_cons rfl sub_nil))))
   ·exact (subH_row rfl (by dsimp only; rfl) subH_nil)
   ·exact (subH_same rfl (subH_same rfl subH_nil))
   ·rintro ⟨k, oa, on, oc⟩ ⟨hk, hon, hcl⟩
    dsimp only at hk hon hcl ⊢
    intro K9 hK9
    refine wp_seq' fun K10 hK10 => ?_
    refine wp_seq' fun K11 hK11 => ?_
    refine wp_reg ?_
    refine ol_r (r_move rfl) rfl ?_
    refine ol_r (r_fa (o' := 3) rfl fl29_3 rfl) rfl ?_
    refine ol_r (r_ld (id := 3) rfl rfl rfl sc25) rfl ?_
    refine ol_r (r_len rfl sl25) rfl ?_
    refine ol_r (r_lss rfl rfl) rfl ?_
    refine ol_nil (to_k0 (fun _ _ h => h) (hK11 _ _ _ _ _ ?_))
    clear hK11
    refine wp_condD rfl (fun hc30 => ?_) (fun hc30 => ?_)
    ·refine wp_skip' (to_k0 (fun _ _ h => h) (hK10 _ _ _ _ _ ?_))
     clear hK10
     refine wp_seq' fun K12 hK12 => ?_
     refine wp_block' ?_
     refine wp_seq' fun K13 hK13 => ?_
     refine wp_reg ?_
     refine ol_r (r_move rfl) rfl ?_
     refine ol_r (r_len rfl sl30) rfl ?_
     refine ol_r (r_assign rfl) rfl ?_
     refine ol_nil (to_k0 (fun _ _ h => h) (hK13 _ _ _ _ _ ?_))
     clear hK13
     refine wp_seq' fun K14 hK14 => ?_
     refine wp_reg ?_
     refine ol_nilrow 10 80 2 ?_
     refine ol_r (r_assign rfl) rfl ?_
     refine ol_nil (to_k0 (fun _ _ h => h) (hK14 _ _ _ _ _ ?_))
     clear hK14
     refine wp_seq' fun K15 hK15 => ?_
     refine wp_rega [(999, [(2, _), (3, _), (7, _), (10, _)])] (by kernel_rfl) ⟨.inr (subH_same rfl (subH_same rfl (subH_same rfl (subH_same rfl subH_nil)))), trivial⟩ ?_
     refine aq_r 0 999 rfl (by kernel_rfl) (by kernel_rfl) (by kernel_rfl) (.head _) (by kernel_rfl) (by kernel_rfl) rfl (r_fa (o' := 3) rfl fl29_3 rfl) ?_
     refine aq_r 1 999 rfl (by kernel_rfl) (by kernel_rfl) (by kernel_rfl) (.head _) (by kernel_rfl) (by kernel_rfl) rfl (r_ld (id := 3) rfl rfl rfl sc25) ?_
     refine aq_r 2 999 rfl (by kernel_rfl) (by kernel_rfl) (by kernel_rfl) (.head _) (by kernel_rfl) (by kernel_rfl) rfl (r_move rfl) ?_
     refine aq_r 3 999 rfl (by kernel_rfl) (by kernel_rfl) (by kernel_rfl) (.head _) (by kernel_rfl) (by kernel_rfl) rfl (r_sub rfl rfl (by omega)) ?_
     refine aq_ixr 4 999 rfl (by kernel_rfl) (by kernel_rfl) (by kernel_rfl) (.head _) (by kernel_rfl) (by kernel_rfl) rfl hA.s rfl rfl sl25 (by omega) fun x39 hx39 => ?_
     try simp only [Int.toNat_natCast] at hx39
     have hx39' := hx39
     rw [show ((k : Int) + 1 - 1).toNat = k by omega] at hx39'
     refine aq_r 5 999 rfl (by kernel_rfl) (by kernel_rfl) (by kernel_rfl) (.head _) (by kernel_rfl) (by kernel_rfl) rfl (r_ldw rfl (fun w1 hb1 hs1 hB1 => Rd.loads hA.s ty73 hx39 hb1)) ?_
     refine aq_r 6 999 rfl (by kernel_rfl) (by kernel_rfl) (by kernel_rfl) (.head _) (by kernel_rfl) (by kernel_rfl) rfl (r_fa (o' := 3) rfl fl29_3 rfl) ?_
     refine aq_r 7 999 rfl (by kernel_rfl) (by kernel_rfl) (by kernel_rfl) (.head _) (by kernel_rfl) (by kernel_rfl) rfl (r_ld (id := 3) rfl rfl rfl sc25) ?_
     refine aq_r 8 999 rfl (by kernel_rfl) (by kernel_rfl) (by kernel_rfl) (.head _) (by kernel_rfl) (by kernel_rfl) rfl (r_move rfl) ?_
     refine aq_ixr 9 999 rfl (by kernel_rfl) (by kernel_rfl) (by kernel_rfl) (.head _) (by kernel_rfl) (by kernel_rfl) rfl hA.s rfl rfl sl25 (by omega) fun x44 hx44 => ?_
     try simp only [Int.toNat_natCast] at hx44
     have hx44' := hx44
     rw [show ((k : Int) + 1).toNat = k + 1 by omega] at hx44'
     have hst := stepsL_get hx39' hx44'
     have hp := hok.place (List.mem_of_getElem? hx39)
     have hq := hok.place (List.mem_of_getElem? hx44)
     have hba := hok.bd _ (List.mem_of_getElem? hx39)
     have hbb := hok.bd _ (List.mem_of_getElem? hx44)
     have hri := hok.rise _ _ _ hx39' hx44'
     refine aq_r 10 999 rfl (by kernel_rfl) (by kernel_rfl) (by kernel_rfl) (.head _) (by kernel_rfl) (by kernel_rfl) rfl (r_ldw rfl (fun w1 hb1 hs1 hB1 => Rd.loads hA.s ty73 hx44 hb1)) ?_
     refine aq_two (i := 11) (j := 12) (by kernel_rfl) rfl rfl (fun K16 hK16 => ?_) (fun K16 hK16 => ?_)
     ·refine ol_alloc 11 z73 rfl fun b11 => ?_
      refine ol_nil (to_k0 (fun _ _ h => h) (hK16 _ _ ⟨.inr (by repeat' first | exact subH_nil | refine subH_same rfl ?_ | (refine subH_blk rfl (by repeat' first | exact sub_nil | refine sub_cons rfl ?_) ?_)), trivial⟩ ?_))
      clear hK16
      refine aq_one (i := 12) (by kernel_rfl) rfl fun K17 hK17 => ?_
      refine ol_alloc 12 z73 rfl fun b12 => ?_
      refine ol_nil (to_k0 (fun _ _ h => h) (hK17 _ _ ⟨.inr (by repeat' first | exact subH_nil | refine subH_same rfl ?_ | (refine subH_blk rfl (by repeat' first | exact sub_nil | refine sub_cons rfl ?_) ?_)), trivial⟩ ?_))
      clear hK17
      refine aq_one (i := 13) (by kernel_rfl) rfl fun K18 hK18 => ?_
      refine ol_store (id := 11) rfl rfl rfl rfl sz73 rfl rfl (by first | decide | exact Nat.zero_lt_succ _ | simp) ?_
      refine ol_nil (to_k0 (fun _ _ h => h) (hK18 _ _ ⟨.inr (by repeat' first | exact subH_nil | refine subH_same rfl ?_ | (refine subH_blk rfl (by repeat' first | exact sub_nil | refine sub_cons rfl ?_) ?_)), trivial⟩ ?_))
      clear hK18
      refine aq_one (i := 14) (by kernel_rfl) rfl fun K19 hK19 => ?_
      refine ol_store (id := 12) rfl rfl rfl rfl sz73 rfl rfl (by first | decide | exact Nat.zero_lt_succ _ | simp) ?_
      refine ol_nil (to_k0 (fun _ _ h => h) (hK19 _ _ ⟨.inr (by repeat' first | exact subH_nil | refine subH_same rfl ?_ | (refine subH_blk rfl (by repeat' first | exact sub_nil | refine sub_cons rfl ?_) ?_)), trivial⟩ ?_))
      clear hK19
      refine aq_done (by kernel_rfl) ?_
      refine (to_k0 (fun _ _ h => h) (hK15 _ _ _ _ _ ?_))
      clear hK15
      refine wp_seq' fun K20 hK20 => ?_
      refine wp_reg ?_
      refine ol_r (r_fa (o' := 1) rfl fl24_1 rfl) rfl ?_
      refine ol_r (r_ld (id := 2) rfl rfl rfl sc22) rfl ?_
      refine ol_r (r_len rfl sl22) rfl ?_
      refine ol_r (r_move rfl) rfl ?_
      refine ol_nil (to_k0 (fun _ _ h => h) (hK20 _ _ _ _ _ ?_))
      clear hK20
      refine wp_block' ?_
      apply wp_loopM (σ := Nat × (Nat → Int) × Option Addr × Nat × Option Addr × Nat × Nat) (fun s => s.1 ≤ gn ∧ tab s.2.2.2.2.2.2 s.2.1 = gOrd gs x39 x44 s.1) (fun s => [(49, .int .i64 s.1), (10, .slice s.2.2.2.2.1 s.2.2.2.2.2.2 s.2.2.2.2.2.1), (7, .slice s.2.2.1 (on + s.2.2.2.2.2.2) s.2.2.2.1)]) [(2, _), (3, _), (4, _), (5, _), (8, _), (9, _), (11, _), (12, _), (47, _), (48, _)] (fun s => [(7, .row s.2.2.1 (on + s.2.2.2.2.2.2) s.2.2.2.1 (encCr.enc (crossS gs (stepsL A.ss) k ++ (tab s.2.2.2.2.2.2 s.2.1).map (crossOf gs x39 x44 k))) 36 3), (10, .row s.2.2.2.2.1 s.2.2.2.2.2.2 s.2.2.2.2.2.1 (encPart.enc ((tab s.2.2.2.2.2.2 s.2.1).map (gPart gs x39 x44))) 80 2)]) [(2, _), (3, _), (11, _), (12, _)] (fun s => gn - s.1) ((0, fun _ => 0, _, _, _, _, 0))
      ·try dsimp only
       exact ⟨Nat.zero_le _, rfl⟩
      ·exact (sub_cons rfl (sub_cons rfl (sub_cons rfl sub_nil)))
      ·exact (sub_cons rfl (sub_cons rfl (sub_cons rfl (sub_cons rfl (sub_cons rfl (sub_cons rfl (sub_cons rfl (sub_cons rfl (sub_cons rfl (sub_cons rfl sub_nil))))))))))
      ·exact (subH_row rfl (by dsimp only; first | rfl | simp [tab]) (subH_row rfl (by first | (dsimp only; first | rfl | simp [tab]; done) | (first | rfl | simp [tab]; done) | (dsimp only; done)) subH_nil))
      ·exact (subH_same rfl (subH_same rfl (subH_same rfl (subH_same rfl subH_nil))))
      ·rintro ⟨j, F, la, lc, pa, pc, cnt⟩ ⟨hj, hF⟩
       dsimp only at hj hF ⊢
       have hcnt : cnt ≤ j := by
         have h1 := congrArg List.length hF
         rw [tab_len, gOrd_len] at h1
         have := gIdx_len gs x39 x44 j
         omega
       intro K21 hK21
       refine wp_seq' fun K22 hK22 => ?_
       refine wp_reg ?_
       refine ol_r (r_lss rfl rfl) rfl ?_
       refine ol_nil (to_k0 (fun _ _ h => h) (hK22 _ _ _ _ _ ?_))
       clear hK22
       refine wp_seq' fun K23 hK23 => ?_
       refine wp_condD rfl (fun hc50 => ?_) (fun hc50 => ?_)
       ·refine wp_skip' (to_k0 (fun _ _ h => h) (hK23 _ _ _ _ _ ?_))
        clear hK23
        refine wp_seq' fun K24 hK24 => ?_
        refine wp_block' ?_
        refine wp_seq' fun K25 hK25 => ?_
        refine wp_reg ?_
        refine ol_r (r_move rfl) rfl ?_
        refine ol_ixr hS rfl rfl sl22 (by omega) rfl fun x52 hx52 => ?_
        try simp only [Int.toNat_natCast] at hx52
        refine ol_r (r_ldw rfl (fun w1 hb1 hs1 hB1 => Rd.loads hS ty75 hx52 hb1)) rfl ?_
        refine ol_alloc 14 z75 rfl fun b14 => ?_
        refine ol_r (r_assign rfl) rfl ?_
        refine ol_store (id := 14) rfl rfl rfl rfl sz75 rfl rfl (by first | decide | exact Nat.zero_lt_succ _ | simp) ?_
        refine ol_nil (to_k0 (fun _ _ h => h) (hK25 _ _ _ _ _ ?_))
        clear hK25
        refine wp_seq' fun K26 hK26 => ?_
        refine wp_seq' fun K27 hK27 => ?_
        refine wp_regq (by kernel_rfl) (by kernel_rfl) ?_
        refine ql_r (r_lda (id := 14) (n := 4) rfl rfl rfl ag75) rfl ?_
        refine ql_r (r_lda (id := 11) (n := 7) rfl rfl rfl ag73) rfl ?_
        refine ql_call rfl rfl cb39 rfl (fun w1 hb1 hs1 hB1 => ref5_pointC _ _) ?_
        refine ql_r (r_lda (id := 12) (n := 7) rfl rfl rfl ag73) rfl ?_
        refine ql_call rfl rfl cb39 rfl (fun w1 hb1 hs1 hB1 => ref5_pointC _ _) ?_
        refine ql_call rfl rfl cb38 rfl (fun w1 hb1 hs1 hB1 => ref5_crosses x52 x39 x44 _ (hseg.g x52 (List.mem_of_getElem? hx52)) hp hq) ?_
        refine ql_r (r_not rfl) rfl ?_
        refine ql_nil (to_k0 (fun _ _ h => h) (hK27 _ _ _ _ _ ?_))
        clear hK27
        refine wp_condNB rfl (fun hc60 => ?_) (fun hc60 => ?_)
        ·refine wp_exit' (to_k0 (fun _ _ h => h) (hK24 _ _ _ _ _ ?_))
         clear hK24
         refine wp_reg ?_
         refine ol_r (r_add rfl rfl (by omega)) rfl ?_
         refine ol_r (r_move rfl) rfl ?_
         refine ol_nil (to_k0 (fun _ _ h => h) (hK21 ((j + 1, _, _, _, _, _, _)) _ _ ?_ ?_ (sub_cons rfl (sub_cons rfl (sub_cons rfl sub_nil))) (sub_cons rfl (sub_cons rfl (sub_cons rfl (sub_cons rfl (sub_cons rfl (sub_cons rfl (sub_cons rfl (sub_cons rfl (sub_cons rfl (sub_cons rfl sub_nil)))))))))) (by exact (subH_row rfl (by rfl) (subH_row rfl (by rfl) subH_nil))) (subH_same rfl (subH_same rfl (subH_same rfl (subH_same rfl subH_nil))))))
         ·try dsimp only
          first
            | exact ⟨by omega, by rw [gOrd, gIdx_no hx52 hc60]; exact hF⟩
         ·try dsimp only
          omega
        ·refine wp_skip' (to_k0 (fun _ _ h => h) (hK26 _ _ _ _ _ ?_))
         clear hK26
         refine wp_seq' fun K28 hK28 => ?_
         refine wp_regq (by kernel_rfl) (by kernel_rfl) ?_
         obtain ⟨hpk, hnd, hpe⟩ := part_ok (hseg.g x52 (List.mem_of_getElem? hx52)) hp hq hc60
         obtain ⟨⟨g1, g2⟩, g3, g4⟩ := gate_bd (hseg.g x52 (List.mem_of_getElem? hx52))
         obtain ⟨p1, p2⟩ := hp
         obtain ⟨q1, q2⟩ := hq
         have b1 := side6_bd g1 g2 g3 g4 p1 p2
         have b2 := side6_bd g1 g2 g3 g4 q1 q2
         have hpo := crB_pos hc60
         have hsc := scale_part hpk hnd (d := x44.at_ - x39.at_) (by omega)
         rw [hpe] at hsc
         unfold gSide at hsc hpo
         dsimp only at hsc
         refine ql_r (r_fa (o' := 0) rfl fl75_0 rfl) rfl ?_
         refine ql_r (r_lda (id := 14) (n := 2) rfl rfl rfl ag62) rfl ?_
         refine ql_r (r_fa (o' := 2) rfl fl75_1 rfl) rfl ?_
         refine ql_r (r_lda (id := 14) (n := 2) rfl rfl rfl ag62) rfl ?_
         refine ql_r (r_lda (id := 11) (n := 7) rfl rfl rfl ag73) rfl ?_
         refine ql_call rfl rfl cb39 rfl (fun w1 hb1 hs1 hB1 => ref5_pointC _ _) ?_
         refine ql_call rfl rfl cb40 rfl (fun w1 hb1 hs1 hB1 => ref5_side _ _ _ _ _ _ _ (by assumption) (by assumption) (by assumption) (by assumption) (by assumption) (by assumption)) ?_
         refine ql_r (r_fa (o' := 0) rfl fl75_0 rfl) rfl ?_
         refine ql_r (r_lda (id := 14) (n := 2) rfl rfl rfl ag62) rfl ?_
         refine ql_r (r_fa (o' := 2) rfl fl75_1 rfl) rfl ?_
         refine ql_r (r_lda (id := 14) (n := 2) rfl rfl rfl ag62) rfl ?_
         refine ql_r (r_lda (id := 12) (n := 7) rfl rfl rfl ag73) rfl ?_
         refine ql_call rfl rfl cb39 rfl (fun w1 hb1 hs1 hB1 => ref5_pointC _ _) ?_
         refine ql_call rfl rfl cb40 rfl (fun w1 hb1 hs1 hB1 => ref5_side _ _ _ _ _ _ _ (by assumption) (by assumption) (by assumption) (by assumption) (by assumption) (by assumption)) ?_
         refine ql_r (r_assign rfl) rfl ?_
         refine ql_r (r_assign rfl) rfl ?_
         refine ql_nil (to_k0 (fun _ _ h => h) (hK28 _ _ _ _ _ ?_))
         clear hK28
         refine wp_seq' fun K29 hK29 => ?_
         refine wp_reg ?_
         refine ol_r (r_move rfl) rfl ?_
         refine ol_r (r_neg rfl (by omega)) rfl ?_
         refine ol_r (r_fa (o' := 0) rfl fl73_0 rfl) rfl ?_
         refine ol_r (r_ld (id := 12) rfl rfl rfl sc3) rfl ?_
         refine ol_r (r_fa (o' := 0) rfl fl73_0 rfl) rfl ?_
         refine ol_r (r_ld (id := 11) rfl rfl rfl sc3) rfl ?_
         refine ol_r (r_sub rfl rfl (by omega)) rfl ?_
         refine ol_r (r_mul rfl rfl (by omega)) rfl ?_
         refine ol_r (r_move rfl) rfl ?_
         refine ol_r (r_move rfl) rfl ?_
         refine ol_r (r_sub rfl rfl (by omega)) rfl ?_
         refine ol_call rfl rfl cb41 rfl (fun w1 hb1 hs1 hB1 => Calls.mono (ref1_ScaleD (-side6 x52.ax x52.ay x52.bx x52.by_ x39.x x39.y) (1000 * (x44.at_ - x39.at_)) (side6 x52.ax x52.ay x52.bx x52.by_ x44.x x44.y - side6 x52.ax x52.ay x52.bx x52.by_ x39.x x39.y) _ (by omega) (by omega) (by omega) (by omega)) ?_)
         rintro e w2 ⟨rfl, hb2⟩
         refine After.below rfl hb1 hs1 hB1 hb2 ?_
         clear hb2 hB1 hs1 hb1 w2 w1
         refine ol_r (r_move rfl) rfl ?_
         refine ol_r (r_extract rfl rfl) rfl ?_
         refine ol_r (r_extract rfl rfl) rfl ?_
         refine ol_r (r_assign rfl) rfl ?_
         refine ol_r (r_assign rfl) rfl ?_
         refine ol_nil (to_k0 (fun _ _ h => h) (hK29 _ _ _ _ _ ?_))
         clear hK29
         refine wp_seq' fun K30 hK30 => ?_
         refine wp_reg ?_
         refine ol_r (r_move rfl) rfl ?_
         refine ol_r (r_move rfl) rfl ?_
         refine ol_r (r_move rfl) rfl ?_
         refine ol_r (r_sub rfl rfl (by omega)) rfl ?_
         refine ol_r (r_fa (o' := 0) rfl fl73_0 rfl) rfl ?_
         refine ol_r (r_ld (id := 11) rfl rfl rfl sc3) rfl ?_
         refine ol_r (r_mul rfl rfl (by omega)) rfl ?_
         refine ol_r (r_move rfl) rfl ?_
         refine ol_r (r_add rfl rfl (by omega)) rfl ?_
         refine ol_r (r_build rfl (fun _ => bd36_0_1_2 _ _ _ _)) rfl ?_
         refine ol_bs1 100 rfl rfl rw30 rfl rfl rfl fun a100 => ?_
         refine ol_append1 (id := 7) (id2 := 100) rfl rfl rfl rfl rfl rw30 (by omega) rfl fun a101 c101 => ?_
         refine ol_r (r_assign rfl) rfl ?_
         refine ol_nil (to_k0 (fun _ _ h => h) (hK30 _ _ _ _ _ ?_))
         clear hK30
         refine wp_seq' fun K31 hK31 => ?_
         refine wp_reg ?_
         refine ol_r (r_move rfl) rfl ?_
         refine ol_r (r_move rfl) rfl ?_
         refine ol_r (r_neg rfl (by omega)) rfl ?_
         refine ol_r (r_move rfl) rfl ?_
         refine ol_r (r_move rfl) rfl ?_
         refine ol_r (r_sub rfl rfl (by omega)) rfl ?_
         refine ol_r (r_build rfl (fun _ => bdPair _ _ _)) rfl ?_
         refine ol_bs1 109 rfl rfl rw71 rfl rfl rfl fun a109 => ?_
         refine ol_append1 (id := 10) (id2 := 109) rfl rfl rfl rfl rfl rw71 (by omega) rfl fun a110 c110 => ?_
         refine ol_r (r_assign rfl) rfl ?_
         refine ol_nil (to_k0 (fun _ _ h => h) (hK31 _ _ _ _ _ ?_))
         clear hK31
         refine wp_seq' fun K32 hK32 => ?_
         refine wp_reg ?_
         refine ol_r (r_move rfl) rfl ?_
         refine ol_r (r_len rfl sl30) rfl ?_
         refine ol_r (r_subT (on + cnt) rfl rfl (by omega) (by omega)) rfl ?_
         refine ol_r (r_assign rfl) rfl ?_
         refine ol_nil (to_k0 (fun _ _ h => h) (hK32 _ _ _ _ _ ?_))
         clear hK32
         refine wp_block' ?_
         apply wp_loopM (σ := Nat × (Nat → Int)) (fun s => s.1 ≤ cnt ∧ InsI (ltG gs x39 x44) (fun i => if i < cnt then F i else (j : Int)) s.2 0 cnt s.1) (fun s => [(19, .int .i64 ((on + s.1 : Nat) : Int))]) [(2, _), (3, _), (4, _), (5, _), (7, _), (8, _), (9, _), (10, _), (11, _), (12, _), (47, _), (48, _), (49, _)] (fun s => [(7, .row a101 (on + cnt + 1) c101 (encCr.enc (crossS gs (stepsL A.ss) k ++ (tab (cnt + 1) s.2).map (crossOf gs x39 x44 k))) 36 3), (10, .row a110 (cnt + 1) c110 (encPart.enc ((tab (cnt + 1) s.2).map (gPart gs x39 x44))) 80 2)]) [(2, _), (3, _), (11, _), (12, _), (14, _), (100, _), (109, _)] (fun s => s.1) ((cnt, fun i => if i < cnt then F i else (j : Int)))
         ·try dsimp only
          refine ⟨Nat.le_refl _, InsI.start ?_ ?_⟩
          · have h3 := pair_tab (hF ▸ gOrd_pair gs x39 x44 j)
            intro x y h4 h5 h6
            try dsimp only
            rw [if_pos (by omega), if_pos h6]; exact h3 x y h4 h5 h6
          · intro x h4 h5
            try dsimp only
            rw [if_pos h5, if_neg (Nat.lt_irrefl _)]
            obtain ⟨m, g, e1, e2, e3, e4⟩ := gIdx_mem (gOrd_mem.1 (hF ▸ tab_mem.2 ⟨x, h5, rfl⟩))
            omega
         ·exact (sub_cons rfl sub_nil)
         ·exact (sub_cons rfl (sub_cons rfl (sub_cons rfl (sub_cons rfl (sub_cons rfl (sub_cons rfl (sub_cons rfl (sub_cons rfl (sub_cons rfl (sub_cons rfl (sub_cons rfl (sub_cons rfl (sub_cons rfl sub_nil)))))))))))))
         ·exact (subH_row rfl (by dsimp only; rw [← tab_snoc, List.map_append, ← List.append_assoc, Enc.enc_append, List.map_cons, List.map_nil, crossOf_eq hx52, hpe]; unfold gSide; rw [show (k : Int) + 1 - 1 = k by omega]; rfl) (subH_row rfl (by dsimp only; rw [← tab_snoc, List.map_append, Enc.enc_append, List.map_cons, List.map_nil, gPart_at hx52, hpe]; unfold gSide; rfl) subH_nil))
         ·exact (subH_same rfl (subH_same rfl (subH_same rfl (subH_same rfl (subH_same rfl (subH_same rfl (subH_same rfl subH_nil)))))))
         ·rintro ⟨d, G⟩ ⟨hd, hI⟩
          dsimp only at hd hI ⊢
          have hGt := tab_len (cnt + 1) G
          have hFm : ∀ x, x ∈ gIdx gs x39 x44 (j + 1) ↔ x ∈ tab (cnt + 1) (fun i => if i < cnt then F i else (j : Int)) := fun x => by
            rw [gIdx_yes hx52 hc60, ← tab_snoc, List.mem_append, List.mem_append, hF, gOrd_mem]
          have hGg : ∀ i, i < cnt + 1 → ∃ (m : Nat) (g : GateR), G i = m ∧ gs[m]? = some g ∧ crB g x39 x44 = true := fun i hi => by
            obtain ⟨m, g, e1, e2, e3, e4⟩ := gIdx_mem ((hFm (G i)).2 ((hI.sa.mem (G i)).2 (tab_mem.2 ⟨i, hi, rfl⟩)))
            exact ⟨m, g, e1, e3, e4⟩
          have hln : ∀ {α : Type} (f : Int → α), ((tab (cnt + 1) G).map f).length = cnt + 1 := fun f => by rw [List.length_map, tab_len]
          have hln1 := hln (gPart gs x39 x44)
          have hln2 : (crossS gs (stepsL A.ss) k ++ (tab (cnt + 1) G).map (crossOf gs x39 x44 k)).length = on + cnt + 1 := by rw [List.length_append, hln, hcl]; omega
          intro K33 hK33
          refine wp_seq' fun K34 hK34 => ?_
          refine wp_seq' fun K35 hK35 => ?_
          refine wp_regq (by kernel_rfl) (by kernel_rfl) ?_
          refine ql_r (r_move rfl) rfl ?_
          refine ql_r (r_move rfl) rfl ?_
          refine ql_r (r_gtr rfl rfl) rfl ?_
          refine ql_r (r_move rfl) rfl ?_
          refine ql_split (d := 117) rfl (fun hs117 => ?_) (fun hs117 => ?_)
          ·have phs117 := hs117; try simp only [decide_eq_true_eq, decide_eq_false_iff_not, Bool.not_eq_true', Bool.not_eq_false', Bool.not_true, Bool.not_false] at phs117
           refine ql_g rfl rfl hs117 ?_
           refine ql_r (r_move rfl) rfl ?_
           refine ql_g rfl rfl hs117 ?_
           refine ql_r (r_move rfl) rfl ?_
           refine ql_g rfl rfl hs117 ?_
           refine ql_r (r_move rfl) rfl ?_
           refine ql_g rfl rfl hs117 ?_
           refine ql_r (r_sub rfl rfl (by omega)) rfl ?_
           refine ql_g rfl rfl hs117 ?_
           refine ql_ixo (id := 10) encPart _ rfl rfl rfl rfl sl71 (by omega) (by omega) rfl fun x122 hx122 => ?_
           try simp only [Int.toNat_natCast] at hx122
           try simp only [Int.toNat_natCast] at hx122
           refine ql_g rfl rfl hs117 ?_
           refine ql_r (r_ldw rfl (fun w1 hb1 hs1 hB1 => ld_own (id := 10) hs1 rfl rfl ty80 hx122)) rfl ?_
           refine ql_g rfl rfl hs117 ?_
           refine ql_r (r_move rfl) rfl ?_
           refine ql_g rfl rfl hs117 ?_
           refine ql_r (r_move rfl) rfl ?_
           refine ql_g rfl rfl hs117 ?_
           refine ql_r (r_sub rfl rfl (by omega)) rfl ?_
           refine ql_g rfl rfl hs117 ?_
           refine ql_r (r_move rfl) rfl ?_
           refine ql_g rfl rfl hs117 ?_
           refine ql_r (r_sub rfl rfl (by omega)) rfl ?_
           refine ql_g rfl rfl hs117 ?_
           refine ql_ixo (id := 10) encPart _ rfl rfl rfl rfl sl71 (by omega) (by omega) rfl fun x129 hx129 => ?_
           try simp only [Int.toNat_natCast] at hx129
           try simp only [Int.toNat_natCast] at hx129
           refine ql_g rfl rfl hs117 ?_
           refine ql_r (r_ldw rfl (fun w1 hb1 hs1 hB1 => ld_own (id := 10) hs1 rfl rfl ty80 hx129)) rfl ?_
           refine ql_g rfl rfl hs117 ?_
           obtain ⟨m1, k1, em1, eg1, ec1⟩ := hGg d (by omega)
           obtain ⟨m2, k2, em2, eg2, ec2⟩ := hGg (d - 1) (by omega)
           obtain ⟨ok1, _, _⟩ := part_ok (hseg.g k1 (List.mem_of_getElem? eg1)) ⟨by assumption, by assumption⟩ ⟨by assumption, by assumption⟩ ec1
           obtain ⟨ok2, _, _⟩ := part_ok (hseg.g k2 (List.mem_of_getElem? eg2)) ⟨by assumption, by assumption⟩ ⟨by assumption, by assumption⟩ ec2
           rw [show (((on + d : Nat) : Int) - (on : Int)).toNat = d by omega, List.getElem?_map, tab_at (by omega)] at hx122
           rw [show (((on + d : Nat) : Int) - 1 - (on : Int)).toNat = d - 1 by omega, List.getElem?_map, tab_at (by omega)] at hx129
           have e1 : partOf k1 x39 x44 = x122 := by rw [← gPart_at eg1, ← em1]; exact Option.some.inj hx122
           have e2 : partOf k2 x39 x44 = x129 := by rw [← gPart_at eg2, ← em2]; exact Option.some.inj hx129
           rw [e1] at ok1
           rw [e2] at ok2
           have hl : ltG gs x39 x44 (G d) (G (d - 1)) = decide (x122.num * x129.den < x129.num * x122.den) := by
             unfold ltG
             rw [em1, em2, gPart_at eg1, gPart_at eg2, e1, e2, posI_eq (n := x122.den) (by have := ok1.2.1; omega), posI_eq (n := x129.den) (by have := ok2.2.1; omega)]
           refine ql_call rfl rfl cb42 rfl (fun w1 hb1 hs1 hB1 => ref5_less x122 x129 _ ok1 ok2) ?_
           refine ql_r (r_pickT rfl hs117 rfl) rfl ?_
           refine ql_nil (to_k0 (fun _ _ h => h) (hK35 _ _ _ _ _ ?_))
           clear hK35
           refine wp_condD rfl (fun hc132 => ?_) (fun hc132 => ?_)
           ·refine wp_skip' (to_k0 (fun _ _ h => h) (hK34 _ _ _ _ _ ?_))
            clear hK34
            refine wp_seq' fun K36 hK36 => ?_
            refine wp_block' ?_
            refine wp_seq' fun K37 hK37 => ?_
            refine wp_rega [(999, [(2, _), (3, _), (10, _), (11, _), (12, _), (14, _), (100, _), (109, _)]), (15, [(7, _)])] (by kernel_rfl) ⟨.inr (subH_same rfl (subH_same rfl (subH_same rfl (subH_same rfl (subH_same rfl (subH_same rfl (subH_same rfl (subH_same rfl subH_nil)))))))), ⟨.inr (subH_same rfl subH_nil), trivial⟩⟩ ?_
            refine aq_r 0 999 rfl (by kernel_rfl) (by kernel_rfl) (by kernel_rfl) (.head _) (by kernel_rfl) (by kernel_rfl) rfl (r_move rfl) ?_
            refine aq_r 1 999 rfl (by kernel_rfl) (by kernel_rfl) (by kernel_rfl) (.head _) (by kernel_rfl) (by kernel_rfl) rfl (r_move rfl) ?_
            refine aq_r 2 999 rfl (by kernel_rfl) (by kernel_rfl) (by kernel_rfl) (.head _) (by kernel_rfl) (by kernel_rfl) rfl (r_move rfl) ?_
            refine aq_r 3 999 rfl (by kernel_rfl) (by kernel_rfl) (by kernel_rfl) (.head _) (by kernel_rfl) (by kernel_rfl) rfl (r_move rfl) ?_
            refine aq_r 4 999 rfl (by kernel_rfl) (by kernel_rfl) (by kernel_rfl) (.head _) (by kernel_rfl) (by kernel_rfl) rfl (r_sub rfl rfl (by omega)) ?_
            refine aq_r 5 999 rfl (by kernel_rfl) (by kernel_rfl) (by kernel_rfl) (.head _) (by kernel_rfl) (by kernel_rfl) rfl (r_move rfl) ?_
            refine aq_r 6 999 rfl (by kernel_rfl) (by kernel_rfl) (by kernel_rfl) (.head _) (by kernel_rfl) (by kernel_rfl) rfl (r_move rfl) ?_
            refine aq_r 7 999 rfl (by kernel_rfl) (by kernel_rfl) (by kernel_rfl) (.head _) (by kernel_rfl) (by kernel_rfl) rfl (r_sub rfl rfl (by omega)) ?_
            refine aq_ixo 8 15 rfl (by kernel_rfl) (by kernel_rfl) (by kernel_rfl) (.tail _ (.head _)) (by kernel_rfl) (by kernel_rfl) rfl (id := 7) encCr _ rfl rfl rfl rfl sl30 (by omega) (by omega) fun x143 hx143 => ?_
            try simp only [Int.toNat_natCast] at hx143
            try simp only [Int.toNat_natCast] at hx143
            refine aq_r 9 15 rfl (by kernel_rfl) (by kernel_rfl) (by kernel_rfl) (.tail _ (.head _)) (by kernel_rfl) (by kernel_rfl) rfl (r_ldw rfl (fun w1 hb1 hs1 hB1 => ld_own (id := 7) hs1 rfl rfl ty36 hx143)) ?_
            refine aq_r 10 999 rfl (by kernel_rfl) (by kernel_rfl) (by kernel_rfl) (.head _) (by kernel_rfl) (by kernel_rfl) rfl (r_move rfl) ?_
            refine aq_r 11 999 rfl (by kernel_rfl) (by kernel_rfl) (by kernel_rfl) (.head _) (by kernel_rfl) (by kernel_rfl) rfl (r_move rfl) ?_
            refine aq_one (i := 12) (by kernel_rfl) rfl fun K38 hK38 => ?_
            refine ol_ixo (id := 7) encCr _ rfl rfl rfl rfl sl30 (by omega) rfl fun x147 hx147 => ?_
            try simp only [Int.toNat_natCast] at hx147
            try simp only [Int.toNat_natCast] at hx147
            refine ol_nil (to_k0 (fun _ _ h => h) (hK38 _ _ ⟨.inr (by repeat' first | exact subH_nil | refine subH_same rfl ?_ | (refine subH_blk rfl (by repeat' first | exact sub_nil | refine sub_cons rfl ?_) ?_)), ⟨.inr (by repeat' first | exact subH_nil | refine subH_same rfl ?_ | (refine subH_blk rfl (by repeat' first | exact sub_nil | refine sub_cons rfl ?_) ?_)), trivial⟩⟩ ?_))
            clear hK38
            refine aq_r 13 15 rfl (by kernel_rfl) (by kernel_rfl) (by kernel_rfl) (.tail _ (.head _)) (by kernel_rfl) (by kernel_rfl) rfl (r_ldw rfl (fun w1 hb1 hs1 hB1 => ld_own (id := 7) hs1 rfl rfl ty36 hx147)) ?_
            refine aq_ixo 14 15 rfl (by kernel_rfl) (by kernel_rfl) (by kernel_rfl) (.tail _ (.head _)) (by kernel_rfl) (by kernel_rfl) rfl (id := 7) encCr _ rfl rfl rfl rfl sl30 (by omega) (by omega) fun x149 hx149 => ?_
            try simp only [Int.toNat_natCast] at hx149
            try simp only [Int.toNat_natCast] at hx149
            refine aq_one (i := 15) (by kernel_rfl) rfl fun K39 hK39 => ?_
            refine ol_storeRow (id := 7) _ _ _ rfl rfl rfl rfl sz36 (by omega) ?_
            refine ol_nil (to_k0 (fun _ _ h => h) (hK39 _ _ ⟨.inr (by repeat' first | exact subH_nil | refine subH_same rfl ?_ | (refine subH_blk rfl (by repeat' first | exact sub_nil | refine sub_cons rfl ?_) ?_)), ⟨.inl (by kernel_rfl), trivial⟩⟩ ?_))
            clear hK39
            refine aq_one (i := 16) (by kernel_rfl) rfl fun K40 hK40 => ?_
            refine ol_ixo (id := 7) encCr _ rfl rfl rfl rfl sl30 (by omega) rfl fun x150 hx150 => ?_
            try simp only [Int.toNat_natCast] at hx150
            try simp only [Int.toNat_natCast] at hx150
            refine ol_nil (to_k0 (fun _ _ h => h) (hK40 _ _ ⟨.inr (by repeat' first | exact subH_nil | refine subH_same rfl ?_ | (refine subH_blk rfl (by repeat' first | exact sub_nil | refine sub_cons rfl ?_) ?_)), ⟨.inl (by kernel_rfl), trivial⟩⟩ ?_))
            clear hK40
            refine aq_one (i := 17) (by kernel_rfl) rfl fun K41 hK41 => ?_
            refine ol_storeRow (id := 7) _ _ _ rfl rfl rfl rfl sz36 (by omega) ?_
            refine ol_nil (to_k0 (fun _ _ h => h) (hK41 _ _ ⟨.inr (by repeat' first | exact subH_nil | refine subH_same rfl ?_ | (refine subH_blk rfl (by repeat' first | exact sub_nil | refine sub_cons rfl ?_) ?_)), ⟨.inl (by kernel_rfl), trivial⟩⟩ ?_))
            clear hK41
            refine aq_done (by kernel_rfl) ?_
            refine (to_k0 (fun _ _ h => h) (hK37 _ _ _ _ _ ?_))
            clear hK37
            refine wp_rega [(999, [(2, _), (3, _), (7, _), (11, _), (12, _), (14, _), (100, _), (109, _)]), (23, [(10, _)])] (by kernel_rfl) ⟨.inr (subH_same rfl (subH_same rfl (subH_same rfl (subH_same rfl (subH_same rfl (subH_same rfl (subH_same rfl (subH_same rfl subH_nil)))))))), ⟨.inr (subH_same rfl subH_nil), trivial⟩⟩ ?_
            refine aq_r 0 999 rfl (by kernel_rfl) (by kernel_rfl) (by kernel_rfl) (.head _) (by kernel_rfl) (by kernel_rfl) rfl (r_move rfl) ?_
            refine aq_r 1 999 rfl (by kernel_rfl) (by kernel_rfl) (by kernel_rfl) (.head _) (by kernel_rfl) (by kernel_rfl) rfl (r_move rfl) ?_
            refine aq_r 2 999 rfl (by kernel_rfl) (by kernel_rfl) (by kernel_rfl) (.head _) (by kernel_rfl) (by kernel_rfl) rfl (r_move rfl) ?_
            refine aq_r 3 999 rfl (by kernel_rfl) (by kernel_rfl) (by kernel_rfl) (.head _) (by kernel_rfl) (by kernel_rfl) rfl (r_sub rfl rfl (by omega)) ?_
            refine aq_r 4 999 rfl (by kernel_rfl) (by kernel_rfl) (by kernel_rfl) (.head _) (by kernel_rfl) (by kernel_rfl) rfl (r_move rfl) ?_
            refine aq_r 5 999 rfl (by kernel_rfl) (by kernel_rfl) (by kernel_rfl) (.head _) (by kernel_rfl) (by kernel_rfl) rfl (r_move rfl) ?_
            refine aq_r 6 999 rfl (by kernel_rfl) (by kernel_rfl) (by kernel_rfl) (.head _) (by kernel_rfl) (by kernel_rfl) rfl (r_sub rfl rfl (by omega)) ?_
            refine aq_r 7 999 rfl (by kernel_rfl) (by kernel_rfl) (by kernel_rfl) (.head _) (by kernel_rfl) (by kernel_rfl) rfl (r_move rfl) ?_
            refine aq_r 8 999 rfl (by kernel_rfl) (by kernel_rfl) (by kernel_rfl) (.head _) (by kernel_rfl) (by kernel_rfl) rfl (r_sub rfl rfl (by omega)) ?_
            refine aq_r 9 999 rfl (by kernel_rfl) (by kernel_rfl) (by kernel_rfl) (.head _) (by kernel_rfl) (by kernel_rfl) rfl (r_move rfl) ?_
            refine aq_r 10 999 rfl (by kernel_rfl) (by kernel_rfl) (by kernel_rfl) (.head _) (by kernel_rfl) (by kernel_rfl) rfl (r_move rfl) ?_
            refine aq_r 11 999 rfl (by kernel_rfl) (by kernel_rfl) (by kernel_rfl) (.head _) (by kernel_rfl) (by kernel_rfl) rfl (r_sub rfl rfl (by omega)) ?_
            refine aq_r 12 999 rfl (by kernel_rfl) (by kernel_rfl) (by kernel_rfl) (.head _) (by kernel_rfl) (by kernel_rfl) rfl (r_move rfl) ?_
            refine aq_r 13 999 rfl (by kernel_rfl) (by kernel_rfl) (by kernel_rfl) (.head _) (by kernel_rfl) (by kernel_rfl) rfl (r_sub rfl rfl (by omega)) ?_
            refine aq_ixo 14 23 rfl (by kernel_rfl) (by kernel_rfl) (by kernel_rfl) (.tail _ (.head _)) (by kernel_rfl) (by kernel_rfl) rfl (id := 10) encPart _ rfl rfl rfl rfl sl71 (by omega) (by omega) fun x165 hx165 => ?_
            try simp only [Int.toNat_natCast] at hx165
            try simp only [Int.toNat_natCast] at hx165
            refine aq_r 15 23 rfl (by kernel_rfl) (by kernel_rfl) (by kernel_rfl) (.tail _ (.head _)) (by kernel_rfl) (by kernel_rfl) rfl (r_ldw rfl (fun w1 hb1 hs1 hB1 => ld_own (id := 10) hs1 rfl rfl ty80 hx165)) ?_
            refine aq_r 16 999 rfl (by kernel_rfl) (by kernel_rfl) (by kernel_rfl) (.head _) (by kernel_rfl) (by kernel_rfl) rfl (r_move rfl) ?_
            refine aq_r 17 999 rfl (by kernel_rfl) (by kernel_rfl) (by kernel_rfl) (.head _) (by kernel_rfl) (by kernel_rfl) rfl (r_move rfl) ?_
            refine aq_r 18 999 rfl (by kernel_rfl) (by kernel_rfl) (by kernel_rfl) (.head _) (by kernel_rfl) (by kernel_rfl) rfl (r_move rfl) ?_
            refine aq_r 19 999 rfl (by kernel_rfl) (by kernel_rfl) (by kernel_rfl) (.head _) (by kernel_rfl) (by kernel_rfl) rfl (r_sub rfl rfl (by omega)) ?_
            refine aq_one (i := 20) (by kernel_rfl) rfl fun K42 hK42 => ?_
            refine ol_ixo (id := 10) encPart _ rfl rfl rfl rfl sl71 (by omega) rfl fun x171 hx171 => ?_
            try simp only [Int.toNat_natCast] at hx171
            try simp only [Int.toNat_natCast] at hx171
            refine ol_nil (to_k0 (fun _ _ h => h) (hK42 _ _ ⟨.inr (by repeat' first | exact subH_nil | refine subH_same rfl ?_ | (refine subH_blk rfl (by repeat' first | exact sub_nil | refine sub_cons rfl ?_) ?_)), ⟨.inr (by repeat' first | exact subH_nil | refine subH_same rfl ?_ | (refine subH_blk rfl (by repeat' first | exact sub_nil | refine sub_cons rfl ?_) ?_)), trivial⟩⟩ ?_))
            clear hK42
            refine aq_r 21 23 rfl (by kernel_rfl) (by kernel_rfl) (by kernel_rfl) (.tail _ (.head _)) (by kernel_rfl) (by kernel_rfl) rfl (r_ldw rfl (fun w1 hb1 hs1 hB1 => ld_own (id := 10) hs1 rfl rfl ty80 hx171)) ?_
            refine aq_ixo 22 23 rfl (by kernel_rfl) (by kernel_rfl) (by kernel_rfl) (.tail _ (.head _)) (by kernel_rfl) (by kernel_rfl) rfl (id := 10) encPart _ rfl rfl rfl rfl sl71 (by omega) (by omega) fun x173 hx173 => ?_
            try simp only [Int.toNat_natCast] at hx173
            try simp only [Int.toNat_natCast] at hx173
            refine aq_one (i := 23) (by kernel_rfl) rfl fun K43 hK43 => ?_
            refine ol_storeRow (id := 10) _ _ _ rfl rfl rfl rfl sz80 (by omega) ?_
            refine ol_nil (to_k0 (fun _ _ h => h) (hK43 _ _ ⟨.inr (by repeat' first | exact subH_nil | refine subH_same rfl ?_ | (refine subH_blk rfl (by repeat' first | exact sub_nil | refine sub_cons rfl ?_) ?_)), ⟨.inl (by kernel_rfl), trivial⟩⟩ ?_))
            clear hK43
            refine aq_one (i := 24) (by kernel_rfl) rfl fun K44 hK44 => ?_
            refine ol_ixo (id := 10) encPart _ rfl rfl rfl rfl sl71 (by omega) rfl fun x174 hx174 => ?_
            try simp only [Int.toNat_natCast] at hx174
            try simp only [Int.toNat_natCast] at hx174
            refine ol_nil (to_k0 (fun _ _ h => h) (hK44 _ _ ⟨.inr (by repeat' first | exact subH_nil | refine subH_same rfl ?_ | (refine subH_blk rfl (by repeat' first | exact sub_nil | refine sub_cons rfl ?_) ?_)), ⟨.inl (by kernel_rfl), trivial⟩⟩ ?_))
            clear hK44
            refine aq_one (i := 25) (by kernel_rfl) rfl fun K45 hK45 => ?_
            refine ol_storeRow (id := 10) _ _ _ rfl rfl rfl rfl sz80 (by omega) ?_
            refine ol_nil (to_k0 (fun _ _ h => h) (hK45 _ _ ⟨.inr (by repeat' first | exact subH_nil | refine subH_same rfl ?_ | (refine subH_blk rfl (by repeat' first | exact sub_nil | refine sub_cons rfl ?_) ?_)), ⟨.inl (by kernel_rfl), trivial⟩⟩ ?_))
            clear hK45
            refine aq_done (by kernel_rfl) ?_
            refine (to_k0 (fun _ _ h => h) (hK36 _ _ _ _ _ ?_))
            clear hK36
            refine wp_reg ?_
            refine ol_r (r_move rfl) rfl ?_
            refine ol_r (r_subT (on + (d - 1)) rfl rfl (by omega) (by omega)) rfl ?_
            refine ol_r (r_assign rfl) rfl ?_
            refine ol_nil (to_k0 (fun _ _ h => h) (hK33 ((d - 1, sw2 G d (d - 1))) _ _ ?_ ?_ (sub_cons rfl sub_nil) (sub_cons rfl (sub_cons rfl (sub_cons rfl (sub_cons rfl (sub_cons rfl (sub_cons rfl (sub_cons rfl (sub_cons rfl (sub_cons rfl (sub_cons rfl (sub_cons rfl (sub_cons rfl (sub_cons rfl sub_nil))))))))))))) (by exact (subH_row rfl (by dsimp only; exact congrArg encCr.enc (sw_map (crossOf gs x39 x44 k) (crossS gs (stepsL A.ss) k) (i := d) (j := d - 1) (by omega) (by omega) (by omega) (by omega) ⟨_, by omega, hx143⟩ ⟨_, by omega, hx147⟩).symm) (subH_row rfl (by dsimp only; exact congrArg encPart.enc (sw_map (gPart gs x39 x44) [] (i := d) (j := d - 1) (by omega) (by omega) (by rw [List.length_nil]; omega) (by rw [List.length_nil]; omega) ⟨_, by rw [List.length_nil]; omega, hx165⟩ ⟨_, by rw [List.length_nil]; omega, hx171⟩).symm) subH_nil))) (subH_same rfl (subH_same rfl (subH_same rfl (subH_same rfl (subH_same rfl (subH_same rfl (subH_same rfl subH_nil)))))))))
            ·try dsimp only
             exact ⟨by omega, hI.step (by omega) hd (by rw [hl]; exact decide_eq_true hc132)⟩
            ·try dsimp only
             omega
           ·refine wp_exit' (to_k0 (fun _ _ h => h) (hK24 _ _ _ _ _ ?_))
            clear hK24
            refine wp_reg ?_
            refine ol_r (r_add rfl rfl (by omega)) rfl ?_
            refine ol_r (r_move rfl) rfl ?_
            refine ol_nil (to_k0 (fun _ _ h => h) (hK21 ((j + 1, _, _, _, _, _, _)) _ _ ?_ ?_ (sub_cons rfl (sub_cons rfl (sub_cons rfl sub_nil))) (sub_cons rfl (sub_cons rfl (sub_cons rfl (sub_cons rfl (sub_cons rfl (sub_cons rfl (sub_cons rfl (sub_cons rfl (sub_cons rfl (sub_cons rfl sub_nil)))))))))) (by exact (subH_row rfl (by rfl) (subH_row rfl (by rfl) subH_nil))) (subH_same rfl (subH_same rfl (subH_same rfl (subH_same rfl subH_nil))))))
            ·try dsimp only
             first
               | (refine ⟨by omega, gOrd_one (tab_pair (hI.stop (ltG_swo _ _ _) (Nat.zero_le _) hd (by first | exact .inl (by omega) | exact .inr (by rw [hl]; exact decide_eq_false hc132)))) fun x => ?_⟩
                  rw [← hI.sa.mem x, ← hFm x])
            ·try dsimp only
             omega
          ·have phs117 := hs117; try simp only [decide_eq_true_eq, decide_eq_false_iff_not, Bool.not_eq_true', Bool.not_eq_false', Bool.not_true, Bool.not_false] at phs117
           refine ql_s rfl rfl hs117 rfl ?_
           refine ql_s rfl rfl hs117 rfl ?_
           refine ql_s rfl rfl hs117 rfl ?_
           refine ql_s rfl rfl hs117 rfl ?_
           refine ql_s rfl rfl hs117 rfl ?_
           refine ql_s rfl rfl hs117 rfl ?_
           refine ql_s rfl rfl hs117 rfl ?_
           refine ql_s rfl rfl hs117 rfl ?_
           refine ql_s rfl rfl hs117 rfl ?_
           refine ql_s rfl rfl hs117 rfl ?_
           refine ql_s rfl rfl hs117 rfl ?_
           refine ql_s rfl rfl hs117 rfl ?_
           refine ql_s rfl rfl hs117 rfl ?_
           refine ql_s rfl rfl hs117 rfl ?_
           refine ql_r (r_pickF rfl hs117 rfl) rfl ?_
           refine ql_nil (to_k0 (fun _ _ h => h) (hK35 _ _ _ _ _ ?_))
           clear hK35
           refine wp_condF rfl ?_
           refine wp_exit' (to_k0 (fun _ _ h => h) (hK24 _ _ _ _ _ ?_))
           clear hK24
           refine wp_reg ?_
           refine ol_r (r_add rfl rfl (by omega)) rfl ?_
           refine ol_r (r_move rfl) rfl ?_
           refine ol_nil (to_k0 (fun _ _ h => h) (hK21 ((j + 1, _, _, _, _, _, _)) _ _ ?_ ?_ (sub_cons rfl (sub_cons rfl (sub_cons rfl sub_nil))) (sub_cons rfl (sub_cons rfl (sub_cons rfl (sub_cons rfl (sub_cons rfl (sub_cons rfl (sub_cons rfl (sub_cons rfl (sub_cons rfl (sub_cons rfl sub_nil)))))))))) (by exact (subH_row rfl (by rfl) (subH_row rfl (by rfl) subH_nil))) (subH_same rfl (subH_same rfl (subH_same rfl (subH_same rfl subH_nil))))))
           ·try dsimp only
            first
              | (refine ⟨by omega, gOrd_one (tab_pair (hI.stop (ltG_swo _ _ _) (Nat.zero_le _) hd (by first | exact .inl (by omega) | exact .inr (by rw [hl]; exact decide_eq_false hc132)))) fun x => ?_⟩
                 rw [← hI.sa.mem x, ← hFm x])
           ·try dsimp only
            omega
       ·refine wp_exit' (to_k0 (fun _ _ h => h) (hK12 _ _ _ _ _ ?_))
        clear hK12
        refine wp_reg ?_
        refine ol_r (r_move rfl) rfl ?_
        refine ol_r (r_add rfl rfl (by omega)) rfl ?_
        first
          | (have h0 : orL [chkSeg nm gs, chkA A.d] = 0 := Decidable.not_not.1 hc24
             have hch : chkSeg nm gs = 0 ∧ chkA A.d = 0 := by
               unfold orL orL orL at h0
               by_cases h1 : chkSeg nm gs ≠ 0
               · rw [if_pos h1] at h0; exact absurd h0 h1
               · rw [if_neg h1] at h0
                 refine ⟨Decidable.not_not.1 h1, ?_⟩
                 by_cases h2 : chkA A.d ≠ 0
                 · rw [if_pos h2] at h0; exact h0
                 · exact Decidable.not_not.1 h2
             have hseg := segOk hch.1
             have hok : SmpOk A.start A.ss := (goodA hch.2).smp
             have hgl := hseg.len
             have hl20 := hok.len)
          | skip
        refine ol_r (r_assign rfl) rfl ?_
        refine ol_nil (to_k0 (fun _ _ h => h) (hK9 ((k + 1, _, _, _)) _ _ ?_ ?_ (sub_cons (by first | rfl | (first | rfl | (rw [show ((k + 1 : Nat) : Int) + 1 = (k : Int) + 1 + 1 by omega]; rfl))) (sub_cons (by first | rfl | (first | rfl | (rw [show ((k + 1 : Nat) : Int) + 1 = (k : Int) + 1 + 1 by omega]; rfl))) sub_nil)) (sub_cons rfl (sub_cons rfl (sub_cons rfl (sub_cons rfl sub_nil)))) (by exact (subH_row rfl (by dsimp only; (rw [crossS_succ hst]; dsimp only; rw [show gOrd gs x39 x44 gs.length = tab cnt F by rw [hF, show j = gs.length by omega]])) subH_nil)) (subH_same rfl (subH_same rfl subH_nil))))
        ·try dsimp only
         refine ⟨by omega, by omega, ?_⟩
         rw [crossS_succ hst, List.length_append, hcl, List.length_map, gOrd_len, ← gOrd_len, show gOrd gs (x39, x44).1 (x39, x44).2 gs.length = tab cnt F by (rw [hF, show j = gs.length by omega]), tab_len]
        ·try dsimp only
         omega
     ·refine ol_alloc 12 z73 rfl fun b12 => ?_
      refine ol_nil (to_k0 (fun _ _ h => h) (hK16 _ _ ⟨.inr (by repeat' first | exact subH_nil | refine subH_same rfl ?_ | (refine subH_blk rfl (by repeat' first | exact sub_nil | refine sub_cons rfl ?_) ?_)), trivial⟩ ?_))
      clear hK16
      refine aq_one (i := 11) (by kernel_rfl) rfl fun K17 hK17 => ?_
      refine ol_alloc 11 z73 rfl fun b11 => ?_
      refine ol_nil (to_k0 (fun _ _ h => h) (hK17 _ _ ⟨.inr (by repeat' first | exact subH_nil | refine subH_same rfl ?_ | (refine subH_blk rfl (by repeat' first | exact sub_nil | refine sub_cons rfl ?_) ?_)), trivial⟩ ?_))
      clear hK17
      refine aq_one (i := 13) (by kernel_rfl) rfl fun K18 hK18 => ?_
      refine ol_store (id := 11) rfl rfl rfl rfl sz73 rfl rfl (by first | decide | exact Nat.zero_lt_succ _ | simp) ?_
      refine ol_nil (to_k0 (fun _ _ h => h) (hK18 _ _ ⟨.inr (by repeat' first | exact subH_nil | refine subH_same rfl ?_ | (refine subH_blk rfl (by repeat' first | exact sub_nil | refine sub_cons rfl ?_) ?_)), trivial⟩ ?_))
      clear hK18
      refine aq_one (i := 14) (by kernel_rfl) rfl fun K19 hK19 => ?_
      refine ol_store (id := 12) rfl rfl rfl rfl sz73 rfl rfl (by first | decide | exact Nat.zero_lt_succ _ | simp) ?_
      refine ol_nil (to_k0 (fun _ _ h => h) (hK19 _ _ ⟨.inr (by repeat' first | exact subH_nil | refine subH_same rfl ?_ | (refine subH_blk rfl (by repeat' first | exact sub_nil | refine sub_cons rfl ?_) ?_)), trivial⟩ ?_))
      clear hK19
      refine aq_done (by kernel_rfl) ?_
      refine (to_k0 (fun _ _ h => h) (hK15 _ _ _ _ _ ?_))
      clear hK15
      refine wp_seq' fun K20 hK20 => ?_
      refine wp_reg ?_
      refine ol_r (r_fa (o' := 1) rfl fl24_1 rfl) rfl ?_
      refine ol_r (r_ld (id := 2) rfl rfl rfl sc22) rfl ?_
      refine ol_r (r_len rfl sl22) rfl ?_
      refine ol_r (r_move rfl) rfl ?_
      refine ol_nil (to_k0 (fun _ _ h => h) (hK20 _ _ _ _ _ ?_))
      clear hK20
      refine wp_block' ?_
      apply wp_loopM (σ := Nat × (Nat → Int) × Option Addr × Nat × Option Addr × Nat × Nat) (fun s => s.1 ≤ gn ∧ tab s.2.2.2.2.2.2 s.2.1 = gOrd gs x39 x44 s.1) (fun s => [(49, .int .i64 s.1), (10, .slice s.2.2.2.2.1 s.2.2.2.2.2.2 s.2.2.2.2.2.1), (7, .slice s.2.2.1 (on + s.2.2.2.2.2.2) s.2.2.2.1)]) [(2, _), (3, _), (4, _), (5, _), (8, _), (9, _), (11, _), (12, _), (47, _), (48, _)] (fun s => [(7, .row s.2.2.1 (on + s.2.2.2.2.2.2) s.2.2.2.1 (encCr.enc (crossS gs (stepsL A.ss) k ++ (tab s.2.2.2.2.2.2 s.2.1).map (crossOf gs x39 x44 k))) 36 3), (10, .row s.2.2.2.2.1 s.2.2.2.2.2.2 s.2.2.2.2.2.1 (encPart.enc ((tab s.2.2.2.2.2.2 s.2.1).map (gPart gs x39 x44))) 80 2)]) [(2, _), (3, _), (11, _), (12, _)] (fun s => gn - s.1) ((0, fun _ => 0, _, _, _, _, 0))
      ·try dsimp only
       exact ⟨Nat.zero_le _, rfl⟩
      ·exact (sub_cons rfl (sub_cons rfl (sub_cons rfl sub_nil)))
      ·exact (sub_cons rfl (sub_cons rfl (sub_cons rfl (sub_cons rfl (sub_cons rfl (sub_cons rfl (sub_cons rfl (sub_cons rfl (sub_cons rfl (sub_cons rfl sub_nil))))))))))
      ·exact (subH_row rfl (by dsimp only; first | rfl | simp [tab]) (subH_row rfl (by first | (dsimp only; first | rfl | simp [tab]; done) | (first | rfl | simp [tab]; done) | (dsimp only; done)) subH_nil))
      ·exact (subH_same rfl (subH_same rfl (subH_same rfl (subH_same rfl subH_nil))))
      ·rintro ⟨j, F, la, lc, pa, pc, cnt⟩ ⟨hj, hF⟩
       dsimp only at hj hF ⊢
       have hcnt : cnt ≤ j := by
         have h1 := congrArg List.length hF
         rw [tab_len, gOrd_len] at h1
         have := gIdx_len gs x39 x44 j
         omega
       intro K21 hK21
       refine wp_seq' fun K22 hK22 => ?_
       refine wp_reg ?_
       refine ol_r (r_lss rfl rfl) rfl ?_
       refine ol_nil (to_k0 (fun _ _ h => h) (hK22 _ _ _ _ _ ?_))
       clear hK22
       refine wp_seq' fun K23 hK23 => ?_
       refine wp_condD rfl (fun hc50 => ?_) (fun hc50 => ?_)
       ·refine wp_skip' (to_k0 (fun _ _ h => h) (hK23 _ _ _ _ _ ?_))
        clear hK23
        refine wp_seq' fun K24 hK24 => ?_
        refine wp_block' ?_
        refine wp_seq' fun K25 hK25 => ?_
        refine wp_reg ?_
        refine ol_r (r_move rfl) rfl ?_
        refine ol_ixr hS rfl rfl sl22 (by omega) rfl fun x52 hx52 => ?_
        try simp only [Int.toNat_natCast] at hx52
        refine ol_r (r_ldw rfl (fun w1 hb1 hs1 hB1 => Rd.loads hS ty75 hx52 hb1)) rfl ?_
        refine ol_alloc 14 z75 rfl fun b14 => ?_
        refine ol_r (r_assign rfl) rfl ?_
        refine ol_store (id := 14) rfl rfl rfl rfl sz75 rfl rfl (by first | decide | exact Nat.zero_lt_succ _ | simp) ?_
        refine ol_nil (to_k0 (fun _ _ h => h) (hK25 _ _ _ _ _ ?_))
        clear hK25
        refine wp_seq' fun K26 hK26 => ?_
        refine wp_seq' fun K27 hK27 => ?_
        refine wp_regq (by kernel_rfl) (by kernel_rfl) ?_
        refine ql_r (r_lda (id := 14) (n := 4) rfl rfl rfl ag75) rfl ?_
        refine ql_r (r_lda (id := 11) (n := 7) rfl rfl rfl ag73) rfl ?_
        refine ql_call rfl rfl cb39 rfl (fun w1 hb1 hs1 hB1 => ref5_pointC _ _) ?_
        refine ql_r (r_lda (id := 12) (n := 7) rfl rfl rfl ag73) rfl ?_
        refine ql_call rfl rfl cb39 rfl (fun w1 hb1 hs1 hB1 => ref5_pointC _ _) ?_
        refine ql_call rfl rfl cb38 rfl (fun w1 hb1 hs1 hB1 => ref5_crosses x52 x39 x44 _ (hseg.g x52 (List.mem_of_getElem? hx52)) hp hq) ?_
        refine ql_r (r_not rfl) rfl ?_
        refine ql_nil (to_k0 (fun _ _ h => h) (hK27 _ _ _ _ _ ?_))
        clear hK27
        refine wp_condNB rfl (fun hc60 => ?_) (fun hc60 => ?_)
        ·refine wp_exit' (to_k0 (fun _ _ h => h) (hK24 _ _ _ _ _ ?_))
         clear hK24
         refine wp_reg ?_
         refine ol_r (r_add rfl rfl (by omega)) rfl ?_
         refine ol_r (r_move rfl) rfl ?_
         refine ol_nil (to_k0 (fun _ _ h => h) (hK21 ((j + 1, _, _, _, _, _, _)) _ _ ?_ ?_ (sub_cons rfl (sub_cons rfl (sub_cons rfl sub_nil))) (sub_cons rfl (sub_cons rfl (sub_cons rfl (sub_cons rfl (sub_cons rfl (sub_cons rfl (sub_cons rfl (sub_cons rfl (sub_cons rfl (sub_cons rfl sub_nil)))))))))) (by exact (subH_row rfl (by rfl) (subH_row rfl (by rfl) subH_nil))) (subH_same rfl (subH_same rfl (subH_same rfl (subH_same rfl subH_nil))))))
         ·try dsimp only
          first
            | exact ⟨by omega, by rw [gOrd, gIdx_no hx52 hc60]; exact hF⟩
         ·try dsimp only
          omega
        ·refine wp_skip' (to_k0 (fun _ _ h => h) (hK26 _ _ _ _ _ ?_))
         clear hK26
         refine wp_seq' fun K28 hK28 => ?_
         refine wp_regq (by kernel_rfl) (by kernel_rfl) ?_
         obtain ⟨hpk, hnd, hpe⟩ := part_ok (hseg.g x52 (List.mem_of_getElem? hx52)) hp hq hc60
         obtain ⟨⟨g1, g2⟩, g3, g4⟩ := gate_bd (hseg.g x52 (List.mem_of_getElem? hx52))
         obtain ⟨p1, p2⟩ := hp
         obtain ⟨q1, q2⟩ := hq
         have b1 := side6_bd g1 g2 g3 g4 p1 p2
         have b2 := side6_bd g1 g2 g3 g4 q1 q2
         have hpo := crB_pos hc60
         have hsc := scale_part hpk hnd (d := x44.at_ - x39.at_) (by omega)
         rw [hpe] at hsc
         unfold gSide at hsc hpo
         dsimp only at hsc
         refine ql_r (r_fa (o' := 0) rfl fl75_0 rfl) rfl ?_
         refine ql_r (r_lda (id := 14) (n := 2) rfl rfl rfl ag62) rfl ?_
         refine ql_r (r_fa (o' := 2) rfl fl75_1 rfl) rfl ?_
         refine ql_r (r_lda (id := 14) (n := 2) rfl rfl rfl ag62) rfl ?_
         refine ql_r (r_lda (id := 11) (n := 7) rfl rfl rfl ag73) rfl ?_
         refine ql_call rfl rfl cb39 rfl (fun w1 hb1 hs1 hB1 => ref5_pointC _ _) ?_
         refine ql_call rfl rfl cb40 rfl (fun w1 hb1 hs1 hB1 => ref5_side _ _ _ _ _ _ _ (by assumption) (by assumption) (by assumption) (by assumption) (by assumption) (by assumption)) ?_
         refine ql_r (r_fa (o' := 0) rfl fl75_0 rfl) rfl ?_
         refine ql_r (r_lda (id := 14) (n := 2) rfl rfl rfl ag62) rfl ?_
         refine ql_r (r_fa (o' := 2) rfl fl75_1 rfl) rfl ?_
         refine ql_r (r_lda (id := 14) (n := 2) rfl rfl rfl ag62) rfl ?_
         refine ql_r (r_lda (id := 12) (n := 7) rfl rfl rfl ag73) rfl ?_
         refine ql_call rfl rfl cb39 rfl (fun w1 hb1 hs1 hB1 => ref5_pointC _ _) ?_
         refine ql_call rfl rfl cb40 rfl (fun w1 hb1 hs1 hB1 => ref5_side _ _ _ _ _ _ _ (by assumption) (by assumption) (by assumption) (by assumption) (by assumption) (by assumption)) ?_
         refine ql_r (r_assign rfl) rfl ?_
         refine ql_r (r_assign rfl) rfl ?_
         refine ql_nil (to_k0 (fun _ _ h => h) (hK28 _ _ _ _ _ ?_))
         clear hK28
         refine wp_seq' fun K29 hK29 => ?_
         refine wp_reg ?_
         refine ol_r (r_move rfl) rfl ?_
         refine ol_r (r_neg rfl (by omega)) rfl ?_
         refine ol_r (r_fa (o' := 0) rfl fl73_0 rfl) rfl ?_
         refine ol_r (r_ld (id := 12) rfl rfl rfl sc3) rfl ?_
         refine ol_r (r_fa (o' := 0) rfl fl73_0 rfl) rfl ?_
         refine ol_r (r_ld (id := 11) rfl rfl rfl sc3) rfl ?_
         refine ol_r (r_sub rfl rfl (by omega)) rfl ?_
         refine ol_r (r_mul rfl rfl (by omega)) rfl ?_
         refine ol_r (r_move rfl) rfl ?_
         refine ol_r (r_move rfl) rfl ?_
         refine ol_r (r_sub rfl rfl (by omega)) rfl ?_
         refine ol_call rfl rfl cb41 rfl (fun w1 hb1 hs1 hB1 => Calls.mono (ref1_ScaleD (-side6 x52.ax x52.ay x52.bx x52.by_ x39.x x39.y) (1000 * (x44.at_ - x39.at_)) (side6 x52.ax x52.ay x52.bx x52.by_ x44.x x44.y - side6 x52.ax x52.ay x52.bx x52.by_ x39.x x39.y) _ (by omega) (by omega) (by omega) (by omega)) ?_)
         rintro e w2 ⟨rfl, hb2⟩
         refine After.below rfl hb1 hs1 hB1 hb2 ?_
         clear hb2 hB1 hs1 hb1 w2 w1
         refine ol_r (r_move rfl) rfl ?_
         refine ol_r (r_extract rfl rfl) rfl ?_
         refine ol_r (r_extract rfl rfl) rfl ?_
         refine ol_r (r_assign rfl) rfl ?_
         refine ol_r (r_assign rfl) rfl ?_
         refine ol_nil (to_k0 (fun _ _ h => h) (hK29 _ _ _ _ _ ?_))
         clear hK29
         refine wp_seq' fun K30 hK30 => ?_
         refine wp_reg ?_
         refine ol_r (r_move rfl) rfl ?_
         refine ol_r (r_move rfl) rfl ?_
         refine ol_r (r_move rfl) rfl ?_
         refine ol_r (r_sub rfl rfl (by omega)) rfl ?_
         refine ol_r (r_fa (o' := 0) rfl fl73_0 rfl) rfl ?_
         refine ol_r (r_ld (id := 11) rfl rfl rfl sc3) rfl ?_
         refine ol_r (r_mul rfl rfl (by omega)) rfl ?_
         refine ol_r (r_move rfl) rfl ?_
         refine ol_r (r_add rfl rfl (by omega)) rfl ?_
         refine ol_r (r_build rfl (fun _ => bd36_0_1_2 _ _ _ _)) rfl ?_
         refine ol_bs1 100 rfl rfl rw30 rfl rfl rfl fun a100 => ?_
         refine ol_append1 (id := 7) (id2 := 100) rfl rfl rfl rfl rfl rw30 (by omega) rfl fun a101 c101 => ?_
         refine ol_r (r_assign rfl) rfl ?_
         refine ol_nil (to_k0 (fun _ _ h => h) (hK30 _ _ _ _ _ ?_))
         clear hK30
         refine wp_seq' fun K31 hK31 => ?_
         refine wp_reg ?_
         refine ol_r (r_move rfl) rfl ?_
         refine ol_r (r_move rfl) rfl ?_
         refine ol_r (r_neg rfl (by omega)) rfl ?_
         refine ol_r (r_move rfl) rfl ?_
         refine ol_r (r_move rfl) rfl ?_
         refine ol_r (r_sub rfl rfl (by omega)) rfl ?_
         refine ol_r (r_build rfl (fun _ => bdPair _ _ _)) rfl ?_
         refine ol_bs1 109 rfl rfl rw71 rfl rfl rfl fun a109 => ?_
         refine ol_append1 (id := 10) (id2 := 109) rfl rfl rfl rfl rfl rw71 (by omega) rfl fun a110 c110 => ?_
         refine ol_r (r_assign rfl) rfl ?_
         refine ol_nil (to_k0 (fun _ _ h => h) (hK31 _ _ _ _ _ ?_))
         clear hK31
         refine wp_seq' fun K32 hK32 => ?_
         refine wp_reg ?_
         refine ol_r (r_move rfl) rfl ?_
         refine ol_r (r_len rfl sl30) rfl ?_
         refine ol_r (r_subT (on + cnt) rfl rfl (by omega) (by omega)) rfl ?_
         refine ol_r (r_assign rfl) rfl ?_
         refine ol_nil (to_k0 (fun _ _ h => h) (hK32 _ _ _ _ _ ?_))
         clear hK32
         refine wp_block' ?_
         apply wp_loopM (σ := Nat × (Nat → Int)) (fun s => s.1 ≤ cnt ∧ InsI (ltG gs x39 x44) (fun i => if i < cnt then F i else (j : Int)) s.2 0 cnt s.1) (fun s => [(19, .int .i64 ((on + s.1 : Nat) : Int))]) [(2, _), (3, _), (4, _), (5, _), (7, _), (8, _), (9, _), (10, _), (11, _), (12, _), (47, _), (48, _), (49, _)] (fun s => [(7, .row a101 (on + cnt + 1) c101 (encCr.enc (crossS gs (stepsL A.ss) k ++ (tab (cnt + 1) s.2).map (crossOf gs x39 x44 k))) 36 3), (10, .row a110 (cnt + 1) c110 (encPart.enc ((tab (cnt + 1) s.2).map (gPart gs x39 x44))) 80 2)]) [(2, _), (3, _), (11, _), (12, _), (14, _), (100, _), (109, _)] (fun s => s.1) ((cnt, fun i => if i < cnt then F i else (j : Int)))
         ·try dsimp only
          refine ⟨Nat.le_refl _, InsI.start ?_ ?_⟩
          · have h3 := pair_tab (hF ▸ gOrd_pair gs x39 x44 j)
            intro x y h4 h5 h6
            try dsimp only
            rw [if_pos (by omega), if_pos h6]; exact h3 x y h4 h5 h6
          · intro x h4 h5
            try dsimp only
            rw [if_pos h5, if_neg (Nat.lt_irrefl _)]
            obtain ⟨m, g, e1, e2, e3, e4⟩ := gIdx_mem (gOrd_mem.1 (hF ▸ tab_mem.2 ⟨x, h5, rfl⟩))
            omega
         ·exact (sub_cons rfl sub_nil)
         ·exact (sub_cons rfl (sub_cons rfl (sub_cons rfl (sub_cons rfl (sub_cons rfl (sub_cons rfl (sub_cons rfl (sub_cons rfl (sub_cons rfl (sub_cons rfl (sub_cons rfl (sub_cons rfl (sub_cons rfl sub_nil)))))))))))))
         ·exact (subH_row rfl (by dsimp only; rw [← tab_snoc, List.map_append, ← List.append_assoc, Enc.enc_append, List.map_cons, List.map_nil, crossOf_eq hx52, hpe]; unfold gSide; rw [show (k : Int) + 1 - 1 = k by omega]; rfl) (subH_row rfl (by dsimp only; rw [← tab_snoc, List.map_append, Enc.enc_append, List.map_cons, List.map_nil, gPart_at hx52, hpe]; unfold gSide; rfl) subH_nil))
         ·exact (subH_same rfl (subH_same rfl (subH_same rfl (subH_same rfl (subH_same rfl (subH_same rfl (subH_same rfl subH_nil)))))))
         ·rintro ⟨d, G⟩ ⟨hd, hI⟩
          dsimp only at hd hI ⊢
          have hGt := tab_len (cnt + 1) G
          have hFm : ∀ x, x ∈ gIdx gs x39 x44 (j + 1) ↔ x ∈ tab (cnt + 1) (fun i => if i < cnt then F i else (j : Int)) := fun x => by
            rw [gIdx_yes hx52 hc60, ← tab_snoc, List.mem_append, List.mem_append, hF, gOrd_mem]
          have hGg : ∀ i, i < cnt + 1 → ∃ (m : Nat) (g : GateR), G i = m ∧ gs[m]? = some g ∧ crB g x39 x44 = true := fun i hi => by
            obtain ⟨m, g, e1, e2, e3, e4⟩ := gIdx_mem ((hFm (G i)).2 ((hI.sa.mem (G i)).2 (tab_mem.2 ⟨i, hi, rfl⟩)))
            exact ⟨m, g, e1, e3, e4⟩
          have hln : ∀ {α : Type} (f : Int → α), ((tab (cnt + 1) G).map f).length = cnt + 1 := fun f => by rw [List.length_map, tab_len]
          have hln1 := hln (gPart gs x39 x44)
          have hln2 : (crossS gs (stepsL A.ss) k ++ (tab (cnt + 1) G).map (crossOf gs x39 x44 k)).length = on + cnt + 1 := by rw [List.length_append, hln, hcl]; omega
          intro K33 hK33
          refine wp_seq' fun K34 hK34 => ?_
          refine wp_seq' fun K35 hK35 => ?_
          refine wp_regq (by kernel_rfl) (by kernel_rfl) ?_
          refine ql_r (r_move rfl) rfl ?_
          refine ql_r (r_move rfl) rfl ?_
          refine ql_r (r_gtr rfl rfl) rfl ?_
          refine ql_r (r_move rfl) rfl ?_
          refine ql_split (d := 117) rfl (fun hs117 => ?_) (fun hs117 => ?_)
          ·have phs117 := hs117; try simp only [decide_eq_true_eq, decide_eq_false_iff_not, Bool.not_eq_true', Bool.not_eq_false', Bool.not_true, Bool.not_false] at phs117
           refine ql_g rfl rfl hs117 ?_
           refine ql_r (r_move rfl) rfl ?_
           refine ql_g rfl rfl hs117 ?_
           refine ql_r (r_move rfl) rfl ?_
           refine ql_g rfl rfl hs117 ?_
           refine ql_r (r_move rfl) rfl ?_
           refine ql_g rfl rfl hs117 ?_
           refine ql_r (r_sub rfl rfl (by omega)) rfl ?_
           refine ql_g rfl rfl hs117 ?_
           refine ql_ixo (id := 10) encPart _ rfl rfl rfl rfl sl71 (by omega) (by omega) rfl fun x122 hx122 => ?_
           try simp only [Int.toNat_natCast] at hx122
           try simp only [Int.toNat_natCast] at hx122
           refine ql_g rfl rfl hs117 ?_
           refine ql_r (r_ldw rfl (fun w1 hb1 hs1 hB1 => ld_own (id := 10) hs1 rfl rfl ty80 hx122)) rfl ?_
           refine ql_g rfl rfl hs117 ?_
           refine ql_r (r_move rfl) rfl ?_
           refine ql_g rfl rfl hs117 ?_
           refine ql_r (r_move rfl) rfl ?_
           refine ql_g rfl rfl hs117 ?_
           refine ql_r (r_sub rfl rfl (by omega)) rfl ?_
           refine ql_g rfl rfl hs117 ?_
           refine ql_r (r_move rfl) rfl ?_
           refine ql_g rfl rfl hs117 ?_
           refine ql_r (r_sub rfl rfl (by omega)) rfl ?_
           refine ql_g rfl rfl hs117 ?_
           refine ql_ixo (id := 10) encPart _ rfl rfl rfl rfl sl71 (by omega) (by omega) rfl fun x129 hx129 => ?_
           try simp only [Int.toNat_natCast] at hx129
           try simp only [Int.toNat_natCast] at hx129
           refine ql_g rfl rfl hs117 ?_
           refine ql_r (r_ldw rfl (fun w1 hb1 hs1 hB1 => ld_own (id := 10) hs1 rfl rfl ty80 hx129)) rfl ?_
           refine ql_g rfl rfl hs117 ?_
           obtain ⟨m1, k1, em1, eg1, ec1⟩ := hGg d (by omega)
           obtain ⟨m2, k2, em2, eg2, ec2⟩ := hGg (d - 1) (by omega)
           obtain ⟨ok1, _, _⟩ := part_ok (hseg.g k1 (List.mem_of_getElem? eg1)) ⟨by assumption, by assumption⟩ ⟨by assumption, by assumption⟩ ec1
           obtain ⟨ok2, _, _⟩ := part_ok (hseg.g k2 (List.mem_of_getElem? eg2)) ⟨by assumption, by assumption⟩ ⟨by assumption, by assumption⟩ ec2
           rw [show (((on + d : Nat) : Int) - (on : Int)).toNat = d by omega, List.getElem?_map, tab_at (by omega)] at hx122
           rw [show (((on + d : Nat) : Int) - 1 - (on : Int)).toNat = d - 1 by omega, List.getElem?_map, tab_at (by omega)] at hx129
           have e1 : partOf k1 x39 x44 = x122 := by rw [← gPart_at eg1, ← em1]; exact Option.some.inj hx122
           have e2 : partOf k2 x39 x44 = x129 := by rw [← gPart_at eg2, ← em2]; exact Option.some.inj hx129
           rw [e1] at ok1
           rw [e2] at ok2
           have hl : ltG gs x39 x44 (G d) (G (d - 1)) = decide (x122.num * x129.den < x129.num * x122.den) := by
             unfold ltG
             rw [em1, em2, gPart_at eg1, gPart_at eg2, e1, e2, posI_eq (n := x122.den) (by have := ok1.2.1; omega), posI_eq (n := x129.den) (by have := ok2.2.1; omega)]
           refine ql_call rfl rfl cb42 rfl (fun w1 hb1 hs1 hB1 => ref5_less x122 x129 _ ok1 ok2) ?_
           refine ql_r (r_pickT rfl hs117 rfl) rfl ?_
           refine ql_nil (to_k0 (fun _ _ h => h) (hK35 _ _ _ _ _ ?_))
           clear hK35
           refine wp_condD rfl (fun hc132 => ?_) (fun hc132 => ?_)
           ·refine wp_skip' (to_k0 (fun _ _ h => h) (hK34 _ _ _ _ _ ?_))
            clear hK34
            refine wp_seq' fun K36 hK36 => ?_
            refine wp_block' ?_
            refine wp_seq' fun K37 hK37 => ?_
            refine wp_rega [(999, [(2, _), (3, _), (10, _), (11, _), (12, _), (14, _), (100, _), (109, _)]), (15, [(7, _)])] (by kernel_rfl) ⟨.inr (subH_same rfl (subH_same rfl (subH_same rfl (subH_same rfl (subH_same rfl (subH_same rfl (subH_same rfl (subH_same rfl subH_nil)))))))), ⟨.inr (subH_same rfl subH_nil), trivial⟩⟩ ?_
            refine aq_r 0 999 rfl (by kernel_rfl) (by kernel_rfl) (by kernel_rfl) (.head _) (by kernel_rfl) (by kernel_rfl) rfl (r_move rfl) ?_
            refine aq_r 1 999 rfl (by kernel_rfl) (by kernel_rfl) (by kernel_rfl) (.head _) (by kernel_rfl) (by kernel_rfl) rfl (r_move rfl) ?_
            refine aq_r 2 999 rfl (by kernel_rfl) (by kernel_rfl) (by kernel_rfl) (.head _) (by kernel_rfl) (by kernel_rfl) rfl (r_move rfl) ?_
            refine aq_r 3 999 rfl (by kernel_rfl) (by kernel_rfl) (by kernel_rfl) (.head _) (by kernel_rfl) (by kernel_rfl) rfl (r_move rfl) ?_
            refine aq_r 4 999 rfl (by kernel_rfl) (by kernel_rfl) (by kernel_rfl) (.head _) (by kernel_rfl) (by kernel_rfl) rfl (r_sub rfl rfl (by omega)) ?_
            refine aq_r 5 999 rfl (by kernel_rfl) (by kernel_rfl) (by kernel_rfl) (.head _) (by kernel_rfl) (by kernel_rfl) rfl (r_move rfl) ?_
            refine aq_r 6 999 rfl (by kernel_rfl) (by kernel_rfl) (by kernel_rfl) (.head _) (by kernel_rfl) (by kernel_rfl) rfl (r_move rfl) ?_
            refine aq_r 7 999 rfl (by kernel_rfl) (by kernel_rfl) (by kernel_rfl) (.head _) (by kernel_rfl) (by kernel_rfl) rfl (r_sub rfl rfl (by omega)) ?_
            refine aq_ixo 8 15 rfl (by kernel_rfl) (by kernel_rfl) (by kernel_rfl) (.tail _ (.head _)) (by kernel_rfl) (by kernel_rfl) rfl (id := 7) encCr _ rfl rfl rfl rfl sl30 (by omega) (by omega) fun x143 hx143 => ?_
            try simp only [Int.toNat_natCast] at hx143
            try simp only [Int.toNat_natCast] at hx143
            refine aq_r 9 15 rfl (by kernel_rfl) (by kernel_rfl) (by kernel_rfl) (.tail _ (.head _)) (by kernel_rfl) (by kernel_rfl) rfl (r_ldw rfl (fun w1 hb1 hs1 hB1 => ld_own (id := 7) hs1 rfl rfl ty36 hx143)) ?_
            refine aq_r 10 999 rfl (by kernel_rfl) (by kernel_rfl) (by kernel_rfl) (.head _) (by kernel_rfl) (by kernel_rfl) rfl (r_move rfl) ?_
            refine aq_r 11 999 rfl (by kernel_rfl) (by kernel_rfl) (by kernel_rfl) (.head _) (by kernel_rfl) (by kernel_rfl) rfl (r_move rfl) ?_
            refine aq_one (i := 12) (by kernel_rfl) rfl fun K38 hK38 => ?_
            refine ol_ixo (id := 7) encCr _ rfl rfl rfl rfl sl30 (by omega) rfl fun x147 hx147 => ?_
            try simp only [Int.toNat_natCast] at hx147
            try simp only [Int.toNat_natCast] at hx147
            refine ol_nil (to_k0 (fun _ _ h => h) (hK38 _ _ ⟨.inr (by repeat' first | exact subH_nil | refine subH_same rfl ?_ | (refine subH_blk rfl (by repeat' first | exact sub_nil | refine sub_cons rfl ?_) ?_)), ⟨.inr (by repeat' first | exact subH_nil | refine subH_same rfl ?_ | (refine subH_blk rfl (by repeat' first | exact sub_nil | refine sub_cons rfl ?_) ?_)), trivial⟩⟩ ?_))
            clear hK38
            refine aq_r 13 15 rfl (by kernel_rfl) (by kernel_rfl) (by kernel_rfl) (.tail _ (.head _)) (by kernel_rfl) (by kernel_rfl) rfl (r_ldw rfl (fun w1 hb1 hs1 hB1 => ld_own (id := 7) hs1 rfl rfl ty36 hx147)) ?_
            refine aq_ixo 14 15 rfl (by kernel_rfl) (by kernel_rfl) (by kernel_rfl) (.tail _ (.head _)) (by kernel_rfl) (by kernel_rfl) rfl (id := 7) encCr _ rfl rfl rfl rfl sl30 (by omega) (by omega) fun x149 hx149 => ?_
            try simp only [Int.toNat_natCast] at hx149
            try simp only [Int.toNat_natCast] at hx149
            refine aq_one (i := 15) (by kernel_rfl) rfl fun K39 hK39 => ?_
            refine ol_storeRow (id := 7) _ _ _ rfl rfl rfl rfl sz36 (by omega) ?_
            refine ol_nil (to_k0 (fun _ _ h => h) (hK39 _ _ ⟨.inr (by repeat' first | exact subH_nil | refine subH_same rfl ?_ | (refine subH_blk rfl (by repeat' first | exact sub_nil | refine sub_cons rfl ?_) ?_)), ⟨.inl (by kernel_rfl), trivial⟩⟩ ?_))
            clear hK39
            refine aq_one (i := 16) (by kernel_rfl) rfl fun K40 hK40 => ?_
            refine ol_ixo (id := 7) encCr _ rfl rfl rfl rfl sl30 (by omega) rfl fun x150 hx150 => ?_
            try simp only [Int.toNat_natCast] at hx150
            try simp only [Int.toNat_natCast] at hx150
            refine ol_nil (to_k0 (fun _ _ h => h) (hK40 _ _ ⟨.inr (by repeat' first | exact subH_nil | refine subH_same rfl ?_ | (refine subH_blk rfl (by repeat' first | exact sub_nil | refine sub_cons rfl ?_) ?_)), ⟨.inl (by kernel_rfl), trivial⟩⟩ ?_))
            clear hK40
            refine aq_one (i := 17) (by kernel_rfl) rfl fun K41 hK41 => ?_
            refine ol_storeRow (id := 7) _ _ _ rfl rfl rfl rfl sz36 (by omega) ?_
            refine ol_nil (to_k0 (fun _ _ h => h) (hK41 _ _ ⟨.inr (by repeat' first | exact subH_nil | refine subH_same rfl ?_ | (refine subH_blk rfl (by repeat' first | exact sub_nil | refine sub_cons rfl ?_) ?_)), ⟨.inl (by kernel_rfl), trivial⟩⟩ ?_))
            clear hK41
            refine aq_done (by kernel_rfl) ?_
            refine (to_k0 (fun _ _ h => h) (hK37 _ _ _ _ _ ?_))
            clear hK37
            refine wp_rega [(999, [(2, _), (3, _), (7, _), (11, _), (12, _), (14, _), (100, _), (109, _)]), (23, [(10, _)])] (by kernel_rfl) ⟨.inr (subH_same rfl (subH_same rfl (subH_same rfl (subH_same rfl (subH_same rfl (subH_same rfl (subH_same rfl (subH_same rfl subH_nil)))))))), ⟨.inr (subH_same rfl subH_nil), trivial⟩⟩ ?_
            refine aq_r 0 999 rfl (by kernel_rfl) (by kernel_rfl) (by kernel_rfl) (.head _) (by kernel_rfl) (by kernel_rfl) rfl (r_move rfl) ?_
            refine aq_r 1 999 rfl (by kernel_rfl) (by kernel_rfl) (by kernel_rfl) (.head _) (by kernel_rfl) (by kernel_rfl) rfl (r_move rfl) ?_
            refine aq_r 2 999 rfl (by kernel_rfl) (by kernel_rfl) (by kernel_rfl) (.head _) (by kernel_rfl) (by kernel_rfl) rfl (r_move rfl) ?_
            refine aq_r 3 999 rfl (by kernel_rfl) (by kernel_rfl) (by kernel_rfl) (.head _) (by kernel_rfl) (by kernel_rfl) rfl (r_sub rfl rfl (by omega)) ?_
            refine aq_r 4 999 rfl (by kernel_rfl) (by kernel_rfl) (by kernel_rfl) (.head _) (by kernel_rfl) (by kernel_rfl) rfl (r_move rfl) ?_
            refine aq_r 5 999 rfl (by kernel_rfl) (by kernel_rfl) (by kernel_rfl) (.head _) (by kernel_rfl) (by kernel_rfl) rfl (r_move rfl) ?_
            refine aq_r 6 999 rfl (by kernel_rfl) (by kernel_rfl) (by kernel_rfl) (.head _) (by kernel_rfl) (by kernel_rfl) rfl (r_sub rfl rfl (by omega)) ?_
            refine aq_r 7 999 rfl (by kernel_rfl) (by kernel_rfl) (by kernel_rfl) (.head _) (by kernel_rfl) (by kernel_rfl) rfl (r_move rfl) ?_
            refine aq_r 8 999 rfl (by kernel_rfl) (by kernel_rfl) (by kernel_rfl) (.head _) (by kernel_rfl) (by kernel_rfl) rfl (r_sub rfl rfl (by omega)) ?_
            refine aq_r 9 999 rfl (by kernel_rfl) (by kernel_rfl) (by kernel_rfl) (.head _) (by kernel_rfl) (by kernel_rfl) rfl (r_move rfl) ?_
            refine aq_r 10 999 rfl (by kernel_rfl) (by kernel_rfl) (by kernel_rfl) (.head _) (by kernel_rfl) (by kernel_rfl) rfl (r_move rfl) ?_
            refine aq_r 11 999 rfl (by kernel_rfl) (by kernel_rfl) (by kernel_rfl) (.head _) (by kernel_rfl) (by kernel_rfl) rfl (r_sub rfl rfl (by omega)) ?_
            refine aq_r 12 999 rfl (by kernel_rfl) (by kernel_rfl) (by kernel_rfl) (.head _) (by kernel_rfl) (by kernel_rfl) rfl (r_move rfl) ?_
            refine aq_r 13 999 rfl (by kernel_rfl) (by kernel_rfl) (by kernel_rfl) (.head _) (by kernel_rfl) (by kernel_rfl) rfl (r_sub rfl rfl (by omega)) ?_
            refine aq_ixo 14 23 rfl (by kernel_rfl) (by kernel_rfl) (by kernel_rfl) (.tail _ (.head _)) (by kernel_rfl) (by kernel_rfl) rfl (id := 10) encPart _ rfl rfl rfl rfl sl71 (by omega) (by omega) fun x165 hx165 => ?_
            try simp only [Int.toNat_natCast] at hx165
            try simp only [Int.toNat_natCast] at hx165
            refine aq_r 15 23 rfl (by kernel_rfl) (by kernel_rfl) (by kernel_rfl) (.tail _ (.head _)) (by kernel_rfl) (by kernel_rfl) rfl (r_ldw rfl (fun w1 hb1 hs1 hB1 => ld_own (id := 10) hs1 rfl rfl ty80 hx165)) ?_
            refine aq_r 16 999 rfl (by kernel_rfl) (by kernel_rfl) (by kernel_rfl) (.head _) (by kernel_rfl) (by kernel_rfl) rfl (r_move rfl) ?_
            refine aq_r 17 999 rfl (by kernel_rfl) (by kernel_rfl) (by kernel_rfl) (.head _) (by kernel_rfl) (by kernel_rfl) rfl (r_move rfl) ?_
            refine aq_r 18 999 rfl (by kernel_rfl) (by kernel_rfl) (by kernel_rfl) (.head _) (by kernel_rfl) (by kernel_rfl) rfl (r_move rfl) ?_
            refine aq_r 19 999 rfl (by kernel_rfl) (by kernel_rfl) (by kernel_rfl) (.head _) (by kernel_rfl) (by kernel_rfl) rfl (r_sub rfl rfl (by omega)) ?_
            refine aq_one (i := 20) (by kernel_rfl) rfl fun K42 hK42 => ?_
            refine ol_ixo (id := 10) encPart _ rfl rfl rfl rfl sl71 (by omega) rfl fun x171 hx171 => ?_
            try simp only [Int.toNat_natCast] at hx171
            try simp only [Int.toNat_natCast] at hx171
            refine ol_nil (to_k0 (fun _ _ h => h) (hK42 _ _ ⟨.inr (by repeat' first | exact subH_nil | refine subH_same rfl ?_ | (refine subH_blk rfl (by repeat' first | exact sub_nil | refine sub_cons rfl ?_) ?_)), ⟨.inr (by repeat' first | exact subH_nil | refine subH_same rfl ?_ | (refine subH_blk rfl (by repeat' first | exact sub_nil | refine sub_cons rfl ?_) ?_)), trivial⟩⟩ ?_))
            clear hK42
            refine aq_r 21 23 rfl (by kernel_rfl) (by kernel_rfl) (by kernel_rfl) (.tail _ (.head _)) (by kernel_rfl) (by kernel_rfl) rfl (r_ldw rfl (fun w1 hb1 hs1 hB1 => ld_own (id := 10) hs1 rfl rfl ty80 hx171)) ?_
            refine aq_ixo 22 23 rfl (by kernel_rfl) (by kernel_rfl) (by kernel_rfl) (.tail _ (.head _)) (by kernel_rfl) (by kernel_rfl) rfl (id := 10) encPart _ rfl rfl rfl rfl sl71 (by omega) (by omega) fun x173 hx173 => ?_
            try simp only [Int.toNat_natCast] at hx173
            try simp only [Int.toNat_natCast] at hx173
            refine aq_one (i := 23) (by kernel_rfl) rfl fun K43 hK43 => ?_
            refine ol_storeRow (id := 10) _ _ _ rfl rfl rfl rfl sz80 (by omega) ?_
            refine ol_nil (to_k0 (fun _ _ h => h) (hK43 _ _ ⟨.inr (by repeat' first | exact subH_nil | refine subH_same rfl ?_ | (refine subH_blk rfl (by repeat' first | exact sub_nil | refine sub_cons rfl ?_) ?_)), ⟨.inl (by kernel_rfl), trivial⟩⟩ ?_))
            clear hK43
            refine aq_one (i := 24) (by kernel_rfl) rfl fun K44 hK44 => ?_
            refine ol_ixo (id := 10) encPart _ rfl rfl rfl rfl sl71 (by omega) rfl fun x174 hx174 => ?_
            try simp only [Int.toNat_natCast] at hx174
            try simp only [Int.toNat_natCast] at hx174
            refine ol_nil (to_k0 (fun _ _ h => h) (hK44 _ _ ⟨.inr (by repeat' first | exact subH_nil | refine subH_same rfl ?_ | (refine subH_blk rfl (by repeat' first | exact sub_nil | refine sub_cons rfl ?_) ?_)), ⟨.inl (by kernel_rfl), trivial⟩⟩ ?_))
            clear hK44
            refine aq_one (i := 25) (by kernel_rfl) rfl fun K45 hK45 => ?_
            refine ol_storeRow (id := 10) _ _ _ rfl rfl rfl rfl sz80 (by omega) ?_
            refine ol_nil (to_k0 (fun _ _ h => h) (hK45 _ _ ⟨.inr (by repeat' first | exact subH_nil | refine subH_same rfl ?_ | (refine subH_blk rfl (by repeat' first | exact sub_nil | refine sub_cons rfl ?_) ?_)), ⟨.inl (by kernel_rfl), trivial⟩⟩ ?_))
            clear hK45
            refine aq_done (by kernel_rfl) ?_
            refine (to_k0 (fun _ _ h => h) (hK36 _ _ _ _ _ ?_))
            clear hK36
            refine wp_reg ?_
            refine ol_r (r_move rfl) rfl ?_
            refine ol_r (r_subT (on + (d - 1)) rfl rfl (by omega) (by omega)) rfl ?_
            refine ol_r (r_assign rfl) rfl ?_
            refine ol_nil (to_k0 (fun _ _ h => h) (hK33 ((d - 1, sw2 G d (d - 1))) _ _ ?_ ?_ (sub_cons rfl sub_nil) (sub_cons rfl (sub_cons rfl (sub_cons rfl (sub_cons rfl (sub_cons rfl (sub_cons rfl (sub_cons rfl (sub_cons rfl (sub_cons rfl (sub_cons rfl (sub_cons rfl (sub_cons rfl (sub_cons rfl sub_nil))))))))))))) (by exact (subH_row rfl (by dsimp only; exact congrArg encCr.enc (sw_map (crossOf gs x39 x44 k) (crossS gs (stepsL A.ss) k) (i := d) (j := d - 1) (by omega) (by omega) (by omega) (by omega) ⟨_, by omega, hx143⟩ ⟨_, by omega, hx147⟩).symm) (subH_row rfl (by dsimp only; exact congrArg encPart.enc (sw_map (gPart gs x39 x44) [] (i := d) (j := d - 1) (by omega) (by omega) (by rw [List.length_nil]; omega) (by rw [List.length_nil]; omega) ⟨_, by rw [List.length_nil]; omega, hx165⟩ ⟨_, by rw [List.length_nil]; omega, hx171⟩).symm) subH_nil))) (subH_same rfl (subH_same rfl (subH_same rfl (subH_same rfl (subH_same rfl (subH_same rfl (subH_same rfl subH_nil)))))))))
            ·try dsimp only
             exact ⟨by omega, hI.step (by omega) hd (by rw [hl]; exact decide_eq_true hc132)⟩
            ·try dsimp only
             omega
           ·refine wp_exit' (to_k0 (fun _ _ h => h) (hK24 _ _ _ _ _ ?_))
            clear hK24
            refine wp_reg ?_
            refine ol_r (r_add rfl rfl (by omega)) rfl ?_
            refine ol_r (r_move rfl) rfl ?_
            refine ol_nil (to_k0 (fun _ _ h => h) (hK21 ((j + 1, _, _, _, _, _, _)) _ _ ?_ ?_ (sub_cons rfl (sub_cons rfl (sub_cons rfl sub_nil))) (sub_cons rfl (sub_cons rfl (sub_cons rfl (sub_cons rfl (sub_cons rfl (sub_cons rfl (sub_cons rfl (sub_cons rfl (sub_cons rfl (sub_cons rfl sub_nil)))))))))) (by exact (subH_row rfl (by rfl) (subH_row rfl (by rfl) subH_nil))) (subH_same rfl (subH_same rfl (subH_same rfl (subH_same rfl subH_nil))))))
            ·try dsimp only
             first
               | (refine ⟨by omega, gOrd_one (tab_pair (hI.stop (ltG_swo _ _ _) (Nat.zero_le _) hd (by first | exact .inl (by omega) | exact .inr (by rw [hl]; exact decide_eq_false hc132)))) fun x => ?_⟩
                  rw [← hI.sa.mem x, ← hFm x])
            ·try dsimp only
             omega
          ·have phs117 := hs117; try simp only [decide_eq_true_eq, decide_eq_false_iff_not, Bool.not_eq_true', Bool.not_eq_false', Bool.not_true, Bool.not_false] at phs117
           refine ql_s rfl rfl hs117 rfl ?_
           refine ql_s rfl rfl hs117 rfl ?_
           refine ql_s rfl rfl hs117 rfl ?_
           refine ql_s rfl rfl hs117 rfl ?_
           refine ql_s rfl rfl hs117 rfl ?_
           refine ql_s rfl rfl hs117 rfl ?_
           refine ql_s rfl rfl hs117 rfl ?_
           refine ql_s rfl rfl hs117 rfl ?_
           refine ql_s rfl rfl hs117 rfl ?_
           refine ql_s rfl rfl hs117 rfl ?_
           refine ql_s rfl rfl hs117 rfl ?_
           refine ql_s rfl rfl hs117 rfl ?_
           refine ql_s rfl rfl hs117 rfl ?_
           refine ql_s rfl rfl hs117 rfl ?_
           refine ql_r (r_pickF rfl hs117 rfl) rfl ?_
           refine ql_nil (to_k0 (fun _ _ h => h) (hK35 _ _ _ _ _ ?_))
           clear hK35
           refine wp_condF rfl ?_
           refine wp_exit' (to_k0 (fun _ _ h => h) (hK24 _ _ _ _ _ ?_))
           clear hK24
           refine wp_reg ?_
           refine ol_r (r_add rfl rfl (by omega)) rfl ?_
           refine ol_r (r_move rfl) rfl ?_
           refine ol_nil (to_k0 (fun _ _ h => h) (hK21 ((j + 1, _, _, _, _, _, _)) _ _ ?_ ?_ (sub_cons rfl (sub_cons rfl (sub_cons rfl sub_nil))) (sub_cons rfl (sub_cons rfl (sub_cons rfl (sub_cons rfl (sub_cons rfl (sub_cons rfl (sub_cons rfl (sub_cons rfl (sub_cons rfl (sub_cons rfl sub_nil)))))))))) (by exact (subH_row rfl (by rfl) (subH_row rfl (by rfl) subH_nil))) (subH_same rfl (subH_same rfl (subH_same rfl (subH_same rfl subH_nil))))))
           ·try dsimp only
            first
              | (refine ⟨by omega, gOrd_one (tab_pair (hI.stop (ltG_swo _ _ _) (Nat.zero_le _) hd (by first | exact .inl (by omega) | exact .inr (by rw [hl]; exact decide_eq_false hc132)))) fun x => ?_⟩
                 rw [← hI.sa.mem x, ← hFm x])
           ·try dsimp only
            omega
       ·refine wp_exit' (to_k0 (fun _ _ h => h) (hK12 _ _ _ _ _ ?_))
        clear hK12
        refine wp_reg ?_
        refine ol_r (r_move rfl) rfl ?_
        refine ol_r (r_add rfl rfl (by omega)) rfl ?_
        first
          | (have h0 : orL [chkSeg nm gs, chkA A.d] = 0 := Decidable.not_not.1 hc24
             have hch : chkSeg nm gs = 0 ∧ chkA A.d = 0 := by
               unfold orL orL orL at h0
               by_cases h1 : chkSeg nm gs ≠ 0
               · rw [if_pos h1] at h0; exact absurd h0 h1
               · rw [if_neg h1] at h0
                 refine ⟨Decidable.not_not.1 h1, ?_⟩
                 by_cases h2 : chkA A.d ≠ 0
                 · rw [if_pos h2] at h0; exact h0
                 · exact Decidable.not_not.1 h2
             have hseg := segOk hch.1
             have hok : SmpOk A.start A.ss := (goodA hch.2).smp
             have hgl := hseg.len
             have hl20 := hok.len)
          | skip
        refine ol_r (r_assign rfl) rfl ?_
        refine ol_nil (to_k0 (fun _ _ h => h) (hK9 ((k + 1, _, _, _)) _ _ ?_ ?_ (sub_cons (by first | rfl | (first | rfl | (rw [show ((k + 1 : Nat) : Int) + 1 = (k : Int) + 1 + 1 by omega]; rfl))) (sub_cons (by first | rfl | (first | rfl | (rw [show ((k + 1 : Nat) : Int) + 1 = (k : Int) + 1 + 1 by omega]; rfl))) sub_nil)) (sub_cons rfl (sub_cons rfl (sub_cons rfl (sub_cons rfl sub_nil)))) (by exact (subH_row rfl (by dsimp only; (rw [crossS_succ hst]; dsimp only; rw [show gOrd gs x39 x44 gs.length = tab cnt F by rw [hF, show j = gs.length by omega]])) subH_nil)) (subH_same rfl (subH_same rfl subH_nil))))
        ·try dsimp only
         refine ⟨by omega, by omega, ?_⟩
         rw [crossS_succ hst, List.length_append, hcl, List.length_map, gOrd_len, ← gOrd_len, show gOrd gs (x39, x44).1 (x39, x44).2 gs.length = tab cnt F by (rw [hF, show j = gs.length by omega]), tab_len]
        ·try dsimp only
         omega
    ·refine wp_exit' (to_k0 (fun _ _ h => h) (hK7 _ _ _ _ _ ?_))
     clear hK7
     refine wp_seq' fun K46 hK46 => ?_
     refine wp_reg ?_
     refine ol_r (r_move rfl) rfl ?_
     refine ol_r (r_assign rfl) rfl ?_
     refine ol_r (r_assign rfl) rfl ?_
     refine ol_nil (to_k0 (fun _ _ h => h) (hK46 _ _ _ _ _ ?_))
     clear hK46
     refine hQ.ret (rvs2 (rv_t rfl) (rv_t rfl)) (fun _ _ h => h) fun w hb hs hB hkd => ?_
     exact ⟨_, _, _, by rw [crossR, if_neg hc24], by rw [crossR, if_neg hc24, show (stepsL A.d.ss).length = k by show (stepsL A.ss).length = k; omega]; exact ⟨hb, hs.ok 7 _ rfl⟩⟩
theorem match_Crossings (nm : ByteArray) (ga : Option Addr) (gn gc : Nat) (gs : List GateR) (A : ActV) (w : World) (hn : nm.size ≤ 9223372036854775807) (hS : Rd encGate w.heap.size w ga gn gc gs) (hA : A.Ok w.heap.size w) :
    Calls Try.prog 9 #[.agg #[.string nm, .slice ga gn gc], .agg #[.string A.name, .int .i64 A.sport, .int .i64 A.start, .slice A.sa A.sn A.sc, .slice A.la A.ln A.lc, .slice A.ta A.tn A.tc]] w fun e w' => ∃ b m k, e = .returned (.tuple #[.slice b m k, .int .i64 (crossR nm gs A.d).2]) ∧ Fresh encCr 36 w w' b m k (crossR nm gs A.d).1 := by
  refine enterQ (N := 16) (C := fun _ => True) (H := []) (B := w.heap.size) (args := [_, _]) Try.func9 rfl rfl rfl (Nat.le_refl _) (Sat.nil _ _) fun Q hQ => ?_
  refine wp_seq' fun K1 hK1 => ?_
  refine wp_reg ?_
  refine ol_box 2 rfl rfl rfl fun b2 => ?_
  refine ol_box 3 rfl rfl rfl fun b3 => ?_
  refine ol_r (r_assign rfl) rfl ?_
  refine ol_r (r_assign rfl) rfl ?_
  refine ol_nil (to_k0 (fun _ _ h => h) (hK1 _ _ _ _ _ ?_))
  clear hK1
  refine wp_seq' fun K2 hK2 => ?_
  refine wp_seq' fun K3 hK3 => ?_
  refine wp_reg ?_
  refine ol_r (r_lda (id := 2) (n := 2) rfl rfl rfl ag24) rfl ?_
  refine ol_r (r_lda (id := 3) (n := 6) rfl rfl rfl ag29) rfl ?_
  refine ol_call rfl rfl cb35 rfl (fun w1 hb1 hs1 hB1 => Calls.mono (match_checkRun nm _ _ _ gs A _ hn (hS.at hb1 hB1) (hA.at hb1 hB1)) ?_)
  rintro e w2 ⟨rfl, hb2⟩
  refine After.below rfl hb1 hs1 hB1 hb2 ?_
  clear hb2 hB1 hs1 hb1 w2 w1
  refine ol_r (r_assign rfl) rfl ?_
  refine ol_nil (to_k0 (fun _ _ h => h) (hK3 _ _ _ _ _ ?_))
  clear hK3
  refine wp_seq' fun K4 hK4 => ?_
  refine wp_reg ?_
  refine ol_r (r_move rfl) rfl ?_
  refine ol_r (r_neq rfl rfl) rfl ?_
  refine ol_nil (to_k0 (fun _ _ h => h) (hK4 _ _ _ _ _ ?_))
  clear hK4
  refine wp_condD rfl (fun hc11 => ?_) (fun hc11 => ?_)
  ·refine wp_seq' fun K5 hK5 => ?_
   refine wp_reg ?_
   refine ol_r (r_move rfl) rfl ?_
   refine ol_r (r_assign rfl) rfl ?_
   refine ol_r (r_assign rfl) rfl ?_
   refine ol_nil (to_k0 (fun _ _ h => h) (hK5 _ _ _ _ _ ?_))
   clear hK5
   refine hQ.ret (rvs2 (rv_t rfl) (rv_t rfl)) (fun _ _ h => h) fun w hb hs hB hkd => ?_
   exact ⟨none, 0, 0, by rw [crossR, if_pos hc11], by rw [crossR, if_pos hc11]; exact Fresh.nil hb⟩
  ·refine wp_skip' (to_k0 (fun _ _ h => h) (hK2 _ _ _ _ _ ?_))
   clear hK2
   refine wp_seq' fun K6 hK6 => ?_
   refine wp_reg ?_
   refine ol_r (r_lda (id := 2) (n := 2) rfl rfl rfl ag24) rfl ?_
   refine ol_r (r_lda (id := 3) (n := 6) rfl rfl rfl ag29) rfl ?_
   refine ol_call rfl rfl cb36 rfl (fun w1 hb1 hs1 hB1 => Calls.mono (cross_gen nm _ _ _ gs A _ (hS.at hb1 hB1) (hA.at hb1 hB1) (or_both hc11).1 (or_both hc11).2) ?_)
   rintro e w2 ⟨a15, n15, c15, rfl, hf15⟩
   refine After.fresh (id := 15) rfl hb1 hs1 hB1 hf15 ?_
   have hl15 := hf15.len; clear hf15 hB1 hs1 hb1 w2 w1
   refine ol_r (r_assign rfl) rfl ?_
   refine ol_r (r_assign rfl) rfl ?_
   refine ol_nil (to_k0 (fun _ _ h => h) (hK6 _ _ _ _ _ ?_))
   clear hK6
   refine hQ.ret (rvs2 (rv_t rfl) (rv_t rfl)) (fun _ _ h => h) fun w hb hs hB hkd => ?_
   exact ⟨_, _, _, by rw [crossR, if_neg hc11], by rw [crossR, if_neg hc11]; exact ⟨hb, hs.ok 15 _ rfl⟩⟩
end Go.Proofs.Ytbbhcffkleplnaa
