/-
  Fill: both sides.
-/
import Derived.Test.YtogcclagmobkiaaFillM
import Derived.Test.YtogcclagmobkiaaMid
import Derived.Test.YtogcclagmobkiaaHq
namespace Go.Proofs.Ytogcclagmobkiaa
open Go Go.RowKit Hx
set_option linter.unusedVariables false
set_option linter.unusedSimpArgs false
set_option maxRecDepth 8000
theorem fill_bd {f : Nat} {R cur : List SmpR} (hb : ButF f R cur) (hok : FOk f cur) {j : Nat} {x : SmpR} (hx : R[j]? = some x) : 0 ≤ x.at_ ∧ x.at_ ≤ 1000000 := by
  have hlt := (List.getElem?_eq_some_iff.1 hx).1
  rw [hb.1] at hlt
  have h1 := ButF.at (hb.2 j x _ hx (List.getElem?_eq_getElem hlt))
  have h2 := hok.bd j _ (List.getElem?_eq_getElem hlt)
  omega
theorem fill_up {f : Nat} {R cur : List SmpR} (hb : ButF f R cur) (hok : FOk f cur) {i j : Nat} {x y : SmpR} (hij : i < j) (hx : R[i]? = some x) (hy : R[j]? = some y) : x.at_ < y.at_ := by
  have h1 := (List.getElem?_eq_some_iff.1 hx).1
  have h2 := (List.getElem?_eq_some_iff.1 hy).1
  rw [hb.1] at h1 h2
  have e1 := ButF.at (hb.2 i x _ hx (List.getElem?_eq_getElem h1))
  have e2 := ButF.at (hb.2 j y _ hy (List.getElem?_eq_getElem h2))
  have := hok.rise i j _ _ hij (List.getElem?_eq_getElem h1) (List.getElem?_eq_getElem h2)
  omega
theorem track_fillAt (a : Option Addr) (n c : Nat) (xs : List SmpR) (iv : Int) (x : SmpR) (w : World) (hR : Rd encSmp w.heap.size w a n c xs) (h0 : 0 ≤ iv ∧ iv < n) (hx : xs[iv.toNat]? = some x) :
    Calls Try.prog 81 #[.pointer (a.map (·.add (iv.toNat * encSmp.size)))] w fun e w' => e = .returned (.int .i64 x.at_) ∧ Below w.heap.size w w' := by
  refine enterQ (N := 7) (C := fun _ => True) (H := []) (B := w.heap.size) (args := [_]) Try.func81 rfl rfl rfl (Nat.le_refl _) (Sat.nil _ _) fun Q hQ => ?_
  refine wp_seq' fun K1 hK1 => ?_
  refine wp_reg ?_
  refine ol_r (r_assign rfl) rfl ?_
  refine ol_nil (to_k0 (fun _ _ h => h) (hK1 _ _ _ _ _ ?_))
  clear hK1
  refine wp_seq' fun K2 hK2 => ?_
  refine wp_reg ?_
  refine ol_r (r_move rfl) rfl ?_
  refine ol_r (r_nilS rfl (ix_some hR h0)) rfl ?_
  refine ol_r (r_faw rfl (ix_some hR (by omega)) fl28_0) rfl ?_
  refine ol_r (r_ldw rfl (fun w1 hb1 hs1 hB1 => Rd.loadsF (o := 0) hR sc3 hx hb1 rfl)) rfl ?_
  refine ol_r (r_assign rfl) rfl ?_
  refine ol_nil (to_k0 (fun _ _ h => h) (hK2 _ _ _ _ _ ?_))
  clear hK2
  refine hQ.ret (rvs1 (rv_t rfl)) (fun _ _ h => h) fun w hb hs hB hkd => ?_
  exact ⟨rfl, hb⟩
theorem track_fillNum0 (a : Option Addr) (n c : Nat) (xs : List SmpR) (iv : Int) (x : SmpR) (w : World) (hR : Rd encSmp w.heap.size w a n c xs) (h0 : 0 ≤ iv ∧ iv < n) (hx : xs[iv.toNat]? = some x) :
    Calls Try.prog 83 #[.pointer (a.map (·.add (iv.toNat * encSmp.size)))] w fun e w' => e = .returned (.pointer ((a.map (·.add (iv.toNat * encSmp.size))).map (·.add 4))) ∧ Below w.heap.size w w' := by
  refine enterQ (N := 6) (C := fun _ => True) (H := []) (B := w.heap.size) (args := [_]) Try.func83 rfl rfl rfl (Nat.le_refl _) (Sat.nil _ _) fun Q hQ => ?_
  refine wp_seq' fun K1 hK1 => ?_
  refine wp_reg ?_
  refine ol_r (r_assign rfl) rfl ?_
  refine ol_nil (to_k0 (fun _ _ h => h) (hK1 _ _ _ _ _ ?_))
  clear hK1
  refine wp_seq' fun K2 hK2 => ?_
  refine wp_reg ?_
  refine ol_r (r_move rfl) rfl ?_
  refine ol_r (r_nilS rfl (ix_some hR h0)) rfl ?_
  refine ol_r (r_faw rfl (ix_some hR (by omega)) fl28_4) rfl ?_
  refine ol_r (r_assign rfl) rfl ?_
  refine ol_nil (to_k0 (fun _ _ h => h) (hK2 _ _ _ _ _ ?_))
  clear hK2
  refine hQ.ret (rvs1 (rv_t rfl)) (fun _ _ h => h) fun w hb hs hB hkd => ?_
  exact ⟨rfl, hb⟩
theorem track_fillNum1 (a : Option Addr) (n c : Nat) (xs : List SmpR) (iv : Int) (x : SmpR) (w : World) (hR : Rd encSmp w.heap.size w a n c xs) (h0 : 0 ≤ iv ∧ iv < n) (hx : xs[iv.toNat]? = some x) :
    Calls Try.prog 84 #[.pointer (a.map (·.add (iv.toNat * encSmp.size)))] w fun e w' => e = .returned (.pointer ((a.map (·.add (iv.toNat * encSmp.size))).map (·.add 5))) ∧ Below w.heap.size w w' := by
  refine enterQ (N := 6) (C := fun _ => True) (H := []) (B := w.heap.size) (args := [_]) Try.func84 rfl rfl rfl (Nat.le_refl _) (Sat.nil _ _) fun Q hQ => ?_
  refine wp_seq' fun K1 hK1 => ?_
  refine wp_reg ?_
  refine ol_r (r_assign rfl) rfl ?_
  refine ol_nil (to_k0 (fun _ _ h => h) (hK1 _ _ _ _ _ ?_))
  clear hK1
  refine wp_seq' fun K2 hK2 => ?_
  refine wp_reg ?_
  refine ol_r (r_move rfl) rfl ?_
  refine ol_r (r_nilS rfl (ix_some hR h0)) rfl ?_
  refine ol_r (r_faw rfl (ix_some hR (by omega)) fl28_5) rfl ?_
  refine ol_r (r_assign rfl) rfl ?_
  refine ol_nil (to_k0 (fun _ _ h => h) (hK2 _ _ _ _ _ ?_))
  clear hK2
  refine hQ.ret (rvs1 (rv_t rfl)) (fun _ _ h => h) fun w hb hs hB hkd => ?_
  exact ⟨rfl, hb⟩
theorem track_fillNum2 (a : Option Addr) (n c : Nat) (xs : List SmpR) (iv : Int) (x : SmpR) (w : World) (hR : Rd encSmp w.heap.size w a n c xs) (h0 : 0 ≤ iv ∧ iv < n) (hx : xs[iv.toNat]? = some x) :
    Calls Try.prog 85 #[.pointer (a.map (·.add (iv.toNat * encSmp.size)))] w fun e w' => e = .returned (.pointer ((a.map (·.add (iv.toNat * encSmp.size))).map (·.add 6))) ∧ Below w.heap.size w w' := by
  refine enterQ (N := 6) (C := fun _ => True) (H := []) (B := w.heap.size) (args := [_]) Try.func85 rfl rfl rfl (Nat.le_refl _) (Sat.nil _ _) fun Q hQ => ?_
  refine wp_seq' fun K1 hK1 => ?_
  refine wp_reg ?_
  refine ol_r (r_assign rfl) rfl ?_
  refine ol_nil (to_k0 (fun _ _ h => h) (hK1 _ _ _ _ _ ?_))
  clear hK1
  refine wp_seq' fun K2 hK2 => ?_
  refine wp_reg ?_
  refine ol_r (r_move rfl) rfl ?_
  refine ol_r (r_nilS rfl (ix_some hR h0)) rfl ?_
  refine ol_r (r_faw rfl (ix_some hR (by omega)) fl28_6) rfl ?_
  refine ol_r (r_assign rfl) rfl ?_
  refine ol_nil (to_k0 (fun _ _ h => h) (hK2 _ _ _ _ _ ?_))
  clear hK2
  refine hQ.ret (rvs1 (rv_t rfl)) (fun _ _ h => h) fun w hb hs hB hkd => ?_
  exact ⟨rfl, hb⟩
theorem track_fill0 (B : Nat) (a : Option Addr) (n c : Nat) (xs : List SmpR) (gap : Int) (e1 e2 e3 e4 e5 : Ent) (w : World) (hlen : xs.length = n) (hB : B ≤ w.heap.size) (hok : FOk 0 xs)
    (hs : Sat B w [(900, .row a n c (encSmp.enc xs) 28 7), (901, e1), (902, e2), (903, e3), (904, e4), (905, e5)]) :
    Calls Try.prog 82 #[.slice a n c, .int .i64 gap, .func (.func 81) #[] #[], .func (.func 83) #[] #[]] w fun e w' => e = .returned (.tuple #[]) ∧ Below B w w' ∧ Sat B w' [(900, .row a n c (encSmp.enc (fillP 0 gap xs)) 28 7), (901, e1), (902, e2), (903, e3), (904, e4), (905, e5)] ∧ B ≤ w'.heap.size ∧ Kd (fun _ => False) w w' := by
  have ha : 0 < n → a.isSome = true := fun h => (hs.rd (id := 900) rfl rfl).isSome h
  have hfit : n ≤ 9223372036854775807 := (hs.rd (id := 900) rfl rfl).fit
  have hnf : ∀ x : SmpR, x.num 0 = x.pulse := fun _ => rfl
  refine enterQ (N := 97) (C := fun _ => False) (H := [(900, .row a n c (encSmp.enc xs) 28 7), (901, e1), (902, e2), (903, e3), (904, e4), (905, e5)]) (B := B) (args := [_, _, _, _]) Try.func82 rfl rfl rfl (hB) (hs) fun Q hQ => ?_
  refine wp_seq' fun K1 hK1 => ?_
  refine wp_reg ?_
  refine ol_r (r_assign rfl) rfl ?_
  refine ol_nil (to_k0 (fun _ _ h => h) (hK1 _ _ _ _ _ ?_))
  clear hK1
  refine wp_seq' fun K2 hK2 => ?_
  refine wp_reg ?_
  refine ol_r (r_move rfl) rfl ?_
  refine ol_r (r_len rfl sl22) rfl ?_
  refine ol_r (r_move rfl) rfl ?_
  refine ol_nil (to_k0 (fun _ _ h => h) (hK2 _ _ _ _ _ ?_))
  clear hK2
  refine wp_block' ?_
  apply wp_loopM (σ := Nat) (fun s => s ≤ n) (fun s => [(15, .int .i64 s), (8, .int .i64 (fillN 0 gap xs s).2)]) [(0, _), (1, _), (2, _), (3, _), (14, _)] (fun s => [(900, .row a n c (encSmp.enc (fillN 0 gap xs s).1) 28 7)]) [(901, _), (902, _), (903, _), (904, _), (905, _)] (fun s => n - s) (0)
  ·try dsimp only
   exact Nat.zero_le _
  ·exact (sub_cons rfl (sub_cons rfl sub_nil))
  ·exact (sub_cons rfl (sub_cons rfl (sub_cons rfl (sub_cons rfl (sub_cons rfl sub_nil)))))
  ·exact (subH_row rfl (by first | (dsimp only; rfl; done) | (rfl; done) | (dsimp only; done)) subH_nil)
  ·exact (subH_same rfl (subH_same rfl (subH_same rfl (subH_same rfl (subH_same rfl subH_nil)))))
  ·rintro i hi
   have hRl : (fillN 0 gap xs i).1.length = n := by rw [fillN_len]; exact hlen
   intro K3 hK3
   refine wp_seq' fun K4 hK4 => ?_
   refine wp_reg ?_
   refine ol_r (r_lss rfl rfl) rfl ?_
   refine ol_nil (to_k0 (fun _ _ h => h) (hK4 _ _ _ _ _ ?_))
   clear hK4
   refine wp_seq' fun K5 hK5 => ?_
   first | refine wp_condD rfl (fun hc16 => ?_) (fun hc16 => ?_) | refine wp_condN rfl (fun hc16 => ?_) (fun hc16 => ?_) | refine wp_condNB rfl (fun hc16 => ?_) (fun hc16 => ?_) | refine wp_cond' rfl (fun hc16 => ?_) (fun hc16 => ?_)
   ·refine wp_skip' (to_k0 (fun _ _ h => h) (hK5 _ _ _ _ _ ?_))
    clear hK5
    refine wp_seq' fun K6 hK6 => ?_
    refine wp_block' ?_
    refine wp_seq' fun K7 hK7 => ?_
    refine wp_reg ?_
    refine ol_r (r_move rfl) rfl ?_
    refine ol_r (r_assign rfl) rfl ?_
    refine ol_nil (to_k0 (fun _ _ h => h) (hK7 _ _ _ _ _ ?_))
    clear hK7
    refine wp_seq' fun K8 hK8 => ?_
    refine wp_seq' fun K9 hK9 => ?_
    refine wp_reg ?_
    refine ol_r (r_move rfl) rfl ?_
    refine ol_r (r_move rfl) rfl ?_
    refine ol_r (r_move rfl) rfl ?_
    refine ol_ixo (id := 900) encSmp _ rfl rfl rfl rfl sl22 (by omega) rfl fun x21 hx21 => ?_
    try simp only [Int.toNat_natCast] at hx21
    try simp only [Int.toNat_natCast] at hx21
    refine ol_call rfl rfl cb83 rfl (fun w1 hb1 hs1 hB1 => Calls.mono (track_fillNum0 a n c _ _ x21 _ (hs1.rd (id := 900) rfl rfl) (by omega) hx21) ?_)
    rintro e w2 ⟨rfl, hb2⟩
    refine After.below rfl hb1 hs1 hB1 hb2 ?_
    clear hb2 hB1 hs1 hb1 w2 w1
    refine ol_r (r_nilS rfl (some_map (some_map (ha (by omega))))) rfl ?_
    refine ol_r (r_ldw rfl (fun w1 hb1 hs1 hB1 => ld_ownF (id := 900) (o := 4) hs1 rfl rfl sc3 hx21 rfl)) rfl ?_
    have hI := fillI 0 gap xs i
    have hq : xs[i]? = some x21 := by rw [← hI.ahead i (Nat.le_refl _)]; exact hx21
    have hL : (fillN 0 gap xs i).2 < (i : Int) := by rcases hI.last with h | ⟨k, p, h1, h2, _⟩ <;> omega
    have ea : x21.pulse < 0 → fillN 0 gap xs (i + 1) = (fillN 0 gap xs i) := fun h => fillN_a hq h
    have eb : ¬x21.pulse < 0 → ¬0 ≤ (fillN 0 gap xs i).2 → fillN 0 gap xs (i + 1) = ((fillN 0 gap xs i).1, (i : Int)) := fun h h2 => fillN_b hq h h2
    refine ol_r (r_lss rfl rfl) rfl ?_
    refine ol_nil (to_k0 (fun _ _ h => h) (hK9 _ _ _ _ _ ?_))
    clear hK9
    first | refine wp_condD rfl (fun hc25 => ?_) (fun hc25 => ?_) | refine wp_condN rfl (fun hc25 => ?_) (fun hc25 => ?_) | refine wp_condNB rfl (fun hc25 => ?_) (fun hc25 => ?_) | refine wp_cond' rfl (fun hc25 => ?_) (fun hc25 => ?_)
    ·refine wp_exit' (to_k0 (fun _ _ h => h) (hK6 _ _ _ _ _ ?_))
     clear hK6
     refine wp_reg ?_
     refine ol_r (r_add rfl rfl (by omega)) rfl ?_
     refine ol_r (r_move rfl) rfl ?_
     refine ol_nil (to_k0 (fun _ _ h => h) (hK3 ((i + 1)) _ _ ?_ ?_ (sub_cons (by first | rfl | ((rw [ea hc25]; try rfl))) (sub_cons (by first | rfl | ((rw [ea hc25]; try rfl))) sub_nil)) (sub_cons rfl (sub_cons rfl (sub_cons rfl (sub_cons rfl (sub_cons rfl sub_nil))))) (by exact (subH_row rfl (by first | (dsimp only; rw [ea hc25]; done) | (rw [ea hc25]; done) | (dsimp only; done)) subH_nil)) (subH_same rfl (subH_same rfl (subH_same rfl (subH_same rfl (subH_same rfl subH_nil)))))))
     ·try dsimp only
      omega
     ·try dsimp only
      omega
    ·refine wp_skip' (to_k0 (fun _ _ h => h) (hK8 _ _ _ _ _ ?_))
     clear hK8
     refine wp_seq' fun K10 hK10 => ?_
     refine wp_seq' fun K11 hK11 => ?_
     refine wp_regq (by kernel_rfl) (by kernel_rfl) ?_
     refine ql_r (r_move rfl) rfl ?_
     refine ql_r (r_geq rfl rfl) rfl ?_
     refine ql_r (r_move rfl) rfl ?_
     refine ql_split (d := 28) rfl (fun hs28 => ?_) (fun hs28 => ?_)
     ·have phs28 := hs28; try simp only [decide_eq_true_eq, decide_eq_false_iff_not, Bool.not_eq_true', Bool.not_eq_false', Bool.not_true, Bool.not_false] at phs28
      refine ql_g rfl rfl hs28 ?_
      refine ql_r (r_move rfl) rfl ?_
      refine ql_g rfl rfl hs28 ?_
      refine ql_r (r_move rfl) rfl ?_
      refine ql_g rfl rfl hs28 ?_
      refine ql_r (r_move rfl) rfl ?_
      refine ql_g rfl rfl hs28 ?_
      refine ql_ixo (id := 900) encSmp _ rfl rfl rfl rfl sl22 (by omega) (by omega) rfl fun x32 hx32 => ?_
      try simp only [Int.toNat_natCast] at hx32
      try simp only [Int.toNat_natCast] at hx32
      refine ql_g rfl rfl hs28 ?_
      refine ql_call rfl rfl cb81 rfl (fun w1 hb1 hs1 hB1 => track_fillAt a n c _ _ x32 _ (hs1.rd (id := 900) rfl rfl) (by omega) hx32) ?_
      refine ql_g rfl rfl hs28 ?_
      refine ql_r (r_move rfl) rfl ?_
      refine ql_g rfl rfl hs28 ?_
      refine ql_r (r_move rfl) rfl ?_
      refine ql_g rfl rfl hs28 ?_
      refine ql_r (r_move rfl) rfl ?_
      refine ql_g rfl rfl hs28 ?_
      refine ql_ixo (id := 900) encSmp _ rfl rfl rfl rfl sl22 (by omega) (by omega) rfl fun x37 hx37 => ?_
      try simp only [Int.toNat_natCast] at hx37
      try simp only [Int.toNat_natCast] at hx37
      refine ql_g rfl rfl hs28 ?_
      refine ql_call rfl rfl cb81 rfl (fun w1 hb1 hs1 hB1 => track_fillAt a n c _ _ x37 _ (hs1.rd (id := 900) rfl rfl) (by omega) hx37) ?_
      refine ql_g rfl rfl hs28 ?_
      have b32 := fill_bd hI.but hok hx32
      have b37 := fill_bd hI.but hok hx37
      have e32 : x32 = x21 := Option.some.inj (hx32.symm.trans hx21)
      have hp : xs[(fillN 0 gap xs i).2.toNat]? = some x37 := by rw [← fillN_last (show (fillN 0 gap xs i).2 = (((fillN 0 gap xs i).2.toNat : Nat) : Int) by omega)]; exact hx37
      have ec : ¬x32.at_ - x37.at_ ≤ gap → fillN 0 gap xs (i + 1) = ((fillN 0 gap xs i).1, (i : Int)) := fun h => fillN_c hq hc25 phs28 hp (by rw [← e32]; exact h)
      refine ql_r (r_sub rfl rfl (by omega)) rfl ?_
      refine ql_g rfl rfl hs28 ?_
      refine ql_r (r_move rfl) rfl ?_
      refine ql_g rfl rfl hs28 ?_
      refine ql_r (r_leq rfl rfl) rfl ?_
      refine ql_r (r_pickT rfl hs28 rfl) rfl ?_
      refine ql_nil (to_k0 (fun _ _ h => h) (hK11 _ _ _ _ _ ?_))
      clear hK11
      first | refine wp_condD rfl (fun hc42 => ?_) (fun hc42 => ?_) | refine wp_condN rfl (fun hc42 => ?_) (fun hc42 => ?_) | refine wp_condNB rfl (fun hc42 => ?_) (fun hc42 => ?_) | refine wp_cond' rfl (fun hc42 => ?_) (fun hc42 => ?_)
      ·refine wp_seq' fun K12 hK12 => ?_
       refine wp_regq (by kernel_rfl) (by kernel_rfl) ?_
       refine ql_r (r_move rfl) rfl ?_
       refine ql_r (r_move rfl) rfl ?_
       refine ql_r (r_move rfl) rfl ?_
       refine ql_ixo (id := 900) encSmp _ rfl rfl rfl rfl sl22 (by omega) (by omega) rfl fun x46 hx46 => ?_
       try simp only [Int.toNat_natCast] at hx46
       try simp only [Int.toNat_natCast] at hx46
       refine ql_call rfl rfl cb83 rfl (fun w1 hb1 hs1 hB1 => track_fillNum0 a n c _ _ x46 _ (hs1.rd (id := 900) rfl rfl) (by omega) hx46) ?_
       refine ql_r (r_nilS rfl (some_map (some_map (ha (by omega))))) rfl ?_
       refine ql_r (r_ldw rfl (fun w1 hb1 hs1 hB1 => ld_ownF (id := 900) (o := 4) hs1 rfl rfl sc3 hx46 rfl)) rfl ?_
       refine ql_r (r_move rfl) rfl ?_
       refine ql_r (r_move rfl) rfl ?_
       refine ql_r (r_move rfl) rfl ?_
       refine ql_ixo (id := 900) encSmp _ rfl rfl rfl rfl sl22 (by omega) (by omega) rfl fun x53 hx53 => ?_
       try simp only [Int.toNat_natCast] at hx53
       try simp only [Int.toNat_natCast] at hx53
       refine ql_call rfl rfl cb83 rfl (fun w1 hb1 hs1 hB1 => track_fillNum0 a n c _ _ x53 _ (hs1.rd (id := 900) rfl rfl) (by omega) hx53) ?_
       refine ql_r (r_nilS rfl (some_map (some_map (ha (by omega))))) rfl ?_
       refine ql_r (r_ldw rfl (fun w1 hb1 hs1 hB1 => ld_ownF (id := 900) (o := 4) hs1 rfl rfl sc3 hx53 rfl)) rfl ?_
       refine ql_r (r_assign rfl) rfl ?_
       refine ql_r (r_assign rfl) rfl ?_
       refine ql_nil (to_k0 (fun _ _ h => h) (hK12 _ _ _ _ _ ?_))
       clear hK12
       refine wp_seq' fun K13 hK13 => ?_
       refine wp_reg ?_
       have e46 : x46 = x37 := Option.some.inj (hx46.symm.trans hx37)
       have e53 : x53 = x21 := Option.some.inj (hx53.symm.trans hx21)
       have ed : fillN 0 gap xs (i + 1) = (fillIn 0 x46 x53 (fillN 0 gap xs i).1 ((fillN 0 gap xs i).2.toNat + 1) (i - ((fillN 0 gap xs i).2.toNat + 1)), (i : Int)) := by rw [e46, e53]; exact fillN_d hq hc25 phs28 hp (by rw [← e32]; exact hc42)
       have v46 := (hok.bd _ _ hp).2.2
       have v53 := (hok.bd _ _ hq).2.2
       rw [← e46, hnf] at v46
       rw [← e53, hnf] at v53
       refine ol_r (r_move rfl) rfl ?_
       refine ol_r (r_add rfl rfl (by omega)) rfl ?_
       refine ol_r (r_assign rfl) rfl ?_
       refine ol_nil (to_k0 (fun _ _ h => h) (hK13 _ _ _ _ _ ?_))
       clear hK13
       refine wp_block' ?_
       apply wp_loopM (σ := Nat) (fun s => (fillN 0 gap xs i).2.toNat + 1 + s ≤ i) (fun s => [(12, .int .i64 ((fillN 0 gap xs i).2 + 1 + (s : Int)))]) [(0, _), (1, _), (2, _), (3, _), (8, _), (9, _), (10, _), (11, _), (14, _), (15, _)] (fun s => [(900, .row a n c (encSmp.enc (fillIn 0 x46 x53 (fillN 0 gap xs i).1 ((fillN 0 gap xs i).2.toNat + 1) s)) 28 7)]) [(901, _), (902, _), (903, _), (904, _), (905, _)] (fun s => i - s) (0)
       ·try dsimp only
        omega
       ·exact (sub_cons (by first | rfl | ((refine congrArg (fun z => some (Value.int .i64 z)) ?_; omega))) sub_nil)
       ·exact (sub_cons rfl (sub_cons rfl (sub_cons rfl (sub_cons rfl (sub_cons rfl (sub_cons rfl (sub_cons rfl (sub_cons rfl (sub_cons rfl (sub_cons rfl sub_nil))))))))))
       ·exact (subH_row rfl (by first | (dsimp only; rfl; done) | (rfl; done) | (dsimp only; done)) subH_nil)
       ·exact (subH_same rfl (subH_same rfl (subH_same rfl (subH_same rfl (subH_same rfl subH_nil)))))
       ·rintro d hd
        have hDl : (fillIn 0 x46 x53 (fillN 0 gap xs i).1 ((fillN 0 gap xs i).2.toNat + 1) d).length = n := by rw [fillIn_len]; exact hRl
        have hDb : ButF 0 (fillIn 0 x46 x53 (fillN 0 gap xs i).1 ((fillN 0 gap xs i).2.toNat + 1) d) xs := fillIn_but hI.but d
        intro K14 hK14
        refine wp_seq' fun K15 hK15 => ?_
        refine wp_seq' fun K16 hK16 => ?_
        refine wp_reg ?_
        refine ol_r (r_move rfl) rfl ?_
        refine ol_r (r_move rfl) rfl ?_
        refine ol_r (r_lss rfl rfl) rfl ?_
        refine ol_nil (to_k0 (fun _ _ h => h) (hK16 _ _ _ _ _ ?_))
        clear hK16
        first | refine wp_condD rfl (fun hc61 => ?_) (fun hc61 => ?_) | refine wp_condN rfl (fun hc61 => ?_) (fun hc61 => ?_) | refine wp_condNB rfl (fun hc61 => ?_) (fun hc61 => ?_) | refine wp_cond' rfl (fun hc61 => ?_) (fun hc61 => ?_)
        ·refine wp_skip' (to_k0 (fun _ _ h => h) (hK15 _ _ _ _ _ ?_))
         clear hK15
         refine wp_seq' fun K17 hK17 => ?_
         refine wp_block' ?_
         refine wp_regqt 31 (by kernel_rfl) (by kernel_rfl) ?_
         simp only [List.take_succ_cons, List.take_zero, List.drop_succ_cons, List.drop_zero]
         refine ql_r (r_move rfl) rfl ?_
         refine ql_r (r_move rfl) rfl ?_
         refine ql_r (r_move rfl) rfl ?_
         refine ql_ixo (id := 900) encSmp _ rfl rfl rfl rfl sl22 (by omega) (by omega) rfl fun x67 hx67 => ?_
         try simp only [Int.toNat_natCast] at hx67
         try simp only [Int.toNat_natCast] at hx67
         refine ql_call rfl rfl cb83 rfl (fun w1 hb1 hs1 hB1 => track_fillNum0 a n c _ _ x67 _ (hs1.rd (id := 900) rfl rfl) (by omega) hx67) ?_
         refine ql_r (r_move rfl) rfl ?_
         refine ql_r (r_move rfl) rfl ?_
         refine ql_r (r_move rfl) rfl ?_
         refine ql_r (r_move rfl) rfl ?_
         refine ql_r (r_move rfl) rfl ?_
         refine ql_ixo (id := 900) encSmp _ rfl rfl rfl rfl sl22 (by omega) (by omega) rfl fun x74 hx74 => ?_
         try simp only [Int.toNat_natCast] at hx74
         try simp only [Int.toNat_natCast] at hx74
         refine ql_call rfl rfl cb81 rfl (fun w1 hb1 hs1 hB1 => track_fillAt a n c _ _ x74 _ (hs1.rd (id := 900) rfl rfl) (by omega) hx74) ?_
         refine ql_r (r_move rfl) rfl ?_
         refine ql_r (r_move rfl) rfl ?_
         refine ql_r (r_move rfl) rfl ?_
         refine ql_ixo (id := 900) encSmp _ rfl rfl rfl rfl sl22 (by omega) (by omega) rfl fun x79 hx79 => ?_
         try simp only [Int.toNat_natCast] at hx79
         try simp only [Int.toNat_natCast] at hx79
         refine ql_call rfl rfl cb81 rfl (fun w1 hb1 hs1 hB1 => track_fillAt a n c _ _ x79 _ (hs1.rd (id := 900) rfl rfl) (by omega) hx79) ?_
         have b74 := fill_bd hDb hok hx74
         have b79 := fill_bd hDb hok hx79
         refine ql_r (r_sub rfl rfl (by omega)) rfl ?_
         refine ql_r (r_move rfl) rfl ?_
         refine ql_r (r_move rfl) rfl ?_
         refine ql_r (r_move rfl) rfl ?_
         refine ql_ixo (id := 900) encSmp _ rfl rfl rfl rfl sl22 (by omega) (by omega) rfl fun x85 hx85 => ?_
         try simp only [Int.toNat_natCast] at hx85
         try simp only [Int.toNat_natCast] at hx85
         refine ql_call rfl rfl cb81 rfl (fun w1 hb1 hs1 hB1 => track_fillAt a n c _ _ x85 _ (hs1.rd (id := 900) rfl rfl) (by omega) hx85) ?_
         refine ql_r (r_move rfl) rfl ?_
         refine ql_r (r_move rfl) rfl ?_
         refine ql_r (r_move rfl) rfl ?_
         refine ql_ixo (id := 900) encSmp _ rfl rfl rfl rfl sl22 (by omega) (by omega) rfl fun x90 hx90 => ?_
         try simp only [Int.toNat_natCast] at hx90
         try simp only [Int.toNat_natCast] at hx90
         refine ql_call rfl rfl cb81 rfl (fun w1 hb1 hs1 hB1 => track_fillAt a n c _ _ x90 _ (hs1.rd (id := 900) rfl rfl) (by omega) hx90) ?_
         have b85 := fill_bd hDb hok hx85
         have b90 := fill_bd hDb hok hx90
         refine ql_r (r_sub rfl rfl (by omega)) rfl ?_
         have ek : ((fillN 0 gap xs i).2 + 1 + (d : Int)).toNat = (fillN 0 gap xs i).2.toNat + 1 + d := by omega
         have ei : ((i : Nat) : Int).toNat = i := rfl
         have e74 : x74 = x67 := Option.some.inj (hx74.symm.trans hx67)
         have hpD : (fillIn 0 x46 x53 (fillN 0 gap xs i).1 ((fillN 0 gap xs i).2.toNat + 1) d)[(fillN 0 gap xs i).2.toNat]? = some x46 := by rw [fillIn_out _ _ (by omega)]; exact hx46
         have hqD : (fillIn 0 x46 x53 (fillN 0 gap xs i).1 ((fillN 0 gap xs i).2.toNat + 1) d)[i]? = some x53 := by rw [fillIn_out _ _ (by omega)]; exact hx53
         have e79 : x79 = x46 := Option.some.inj (hx79.symm.trans hpD)
         have e90 : x90 = x46 := Option.some.inj (hx90.symm.trans hpD)
         have e85 : x85 = x53 := Option.some.inj (hx85.symm.trans hqD)
         have u1 := fill_up hDb hok (show (fillN 0 gap xs i).2.toNat < ((fillN 0 gap xs i).2 + 1 + (d : Int)).toNat by omega) hpD hx67
         have u2 := fill_up hDb hok (show ((fillN 0 gap xs i).2 + 1 + (d : Int)).toNat < i by omega) hx67 hqD
         have u3 := fill_bd hDb hok hpD
         have u4 := fill_bd hDb hok hqD
         rw [← e74] at u1 u2
         rw [← e79] at u1
         have u5 := congrArg SmpR.at_ e90
         have u6 := congrArg SmpR.at_ e79
         rw [← e85] at u2
         refine ql_call rfl rfl cb121 rfl (fun w1 hb1 hs1 hB1 => track_between _ _ _ _ _ (by omega) (by omega) (by omega) (by omega) (by omega)) ?_
         refine ql_r (r_nilS rfl (some_map (some_map (ha (by omega))))) rfl ?_
         refine ql_tail ?_
         refine ol_storeRowF (id := 900) _ _ (x67.setNum 0 (btw x46.pulse x53.pulse (x74.at_ - x79.at_) (x85.at_ - x90.at_))) rfl rfl rfl rfl rfl rfl sz3 hx67 (by decide) rfl ?_
         refine ol_nil (to_k0 (fun _ _ h => h) (hK17 _ _ _ _ _ ?_))
         clear hK17
         refine wp_reg ?_
         refine ol_r (r_move rfl) rfl ?_
         refine ol_r (r_add rfl rfl (by omega)) rfl ?_
         refine ol_r (r_assign rfl) rfl ?_
         refine ol_nil (to_k0 (fun _ _ h => h) (hK14 ((d + 1)) _ _ ?_ ?_ (sub_cons (by first | rfl | ((refine congrArg (fun z => some (Value.int .i64 z)) ?_; omega))) sub_nil) (sub_cons rfl (sub_cons rfl (sub_cons rfl (sub_cons rfl (sub_cons rfl (sub_cons rfl (sub_cons rfl (sub_cons rfl (sub_cons rfl (sub_cons rfl sub_nil)))))))))) (by exact (subH_row rfl (by first | (dsimp only; rw [fill_step (n := x74.at_ - x79.at_) (n2 := x85.at_ - x90.at_) (x := x67) (by rw [ek] at hx67; exact hx67) (by rw [e74, e79]) (by rw [e85, e90]), ← ek]; first | done | rfl; done) | (rw [fill_step (n := x74.at_ - x79.at_) (n2 := x85.at_ - x90.at_) (x := x67) (by rw [ek] at hx67; exact hx67) (by rw [e74, e79]) (by rw [e85, e90]), ← ek]; first | done | rfl; done) | (dsimp only; done)) subH_nil)) (subH_same rfl (subH_same rfl (subH_same rfl (subH_same rfl (subH_same rfl subH_nil)))))))
         ·try dsimp only
          omega
         ·try dsimp only
          omega
        ·refine wp_exit' (to_k0 (fun _ _ h => h) (hK10 _ _ _ _ _ ?_))
         clear hK10
         refine wp_reg ?_
         refine ol_r (r_move rfl) rfl ?_
         refine ol_r (r_assign rfl) rfl ?_
         refine ol_nil (to_k0 (fun _ _ h => h) (hK6 _ _ _ _ _ ?_))
         clear hK6
         refine wp_reg ?_
         refine ol_r (r_add rfl rfl (by omega)) rfl ?_
         refine ol_r (r_move rfl) rfl ?_
         refine ol_nil (to_k0 (fun _ _ h => h) (hK3 ((i + 1)) _ _ ?_ ?_ (sub_cons (by first | rfl | ((rw [ed]; try rfl))) (sub_cons (by first | rfl | ((rw [ed]; try rfl))) sub_nil)) (sub_cons rfl (sub_cons rfl (sub_cons rfl (sub_cons rfl (sub_cons rfl sub_nil))))) (by exact (subH_row rfl (by first | (dsimp only; rw [ed, show i - ((fillN 0 gap xs i).2.toNat + 1) = d by omega]; done) | (rw [ed, show i - ((fillN 0 gap xs i).2.toNat + 1) = d by omega]; done) | (dsimp only; done)) subH_nil)) (subH_same rfl (subH_same rfl (subH_same rfl (subH_same rfl (subH_same rfl subH_nil)))))))
         ·try dsimp only
          omega
         ·try dsimp only
          omega
      ·refine wp_skip' (to_k0 (fun _ _ h => h) (hK10 _ _ _ _ _ ?_))
       clear hK10
       refine wp_reg ?_
       refine ol_r (r_move rfl) rfl ?_
       refine ol_r (r_assign rfl) rfl ?_
       refine ol_nil (to_k0 (fun _ _ h => h) (hK6 _ _ _ _ _ ?_))
       clear hK6
       refine wp_reg ?_
       refine ol_r (r_add rfl rfl (by omega)) rfl ?_
       refine ol_r (r_move rfl) rfl ?_
       refine ol_nil (to_k0 (fun _ _ h => h) (hK3 ((i + 1)) _ _ ?_ ?_ (sub_cons (by first | rfl | ((rw [ec hc42]; try rfl))) (sub_cons (by first | rfl | ((rw [ec hc42]; try rfl))) sub_nil)) (sub_cons rfl (sub_cons rfl (sub_cons rfl (sub_cons rfl (sub_cons rfl sub_nil))))) (by exact (subH_row rfl (by first | (dsimp only; rw [ec hc42]; done) | (rw [ec hc42]; done) | (dsimp only; done)) subH_nil)) (subH_same rfl (subH_same rfl (subH_same rfl (subH_same rfl (subH_same rfl subH_nil)))))))
       ·try dsimp only
        omega
       ·try dsimp only
        omega
     ·have phs28 := hs28; try simp only [decide_eq_true_eq, decide_eq_false_iff_not, Bool.not_eq_true', Bool.not_eq_false', Bool.not_true, Bool.not_false] at phs28
      refine ql_s rfl rfl hs28 rfl ?_
      refine ql_s rfl rfl hs28 rfl ?_
      refine ql_s rfl rfl hs28 rfl ?_
      refine ql_s rfl rfl hs28 rfl ?_
      refine ql_s rfl rfl hs28 rfl ?_
      refine ql_s rfl rfl hs28 rfl ?_
      refine ql_s rfl rfl hs28 rfl ?_
      refine ql_s rfl rfl hs28 rfl ?_
      refine ql_s rfl rfl hs28 rfl ?_
      refine ql_s rfl rfl hs28 rfl ?_
      refine ql_s rfl rfl hs28 rfl ?_
      refine ql_s rfl rfl hs28 rfl ?_
      refine ql_s rfl rfl hs28 rfl ?_
      refine ql_r (r_pickF rfl hs28 rfl) rfl ?_
      refine ql_nil (to_k0 (fun _ _ h => h) (hK11 _ _ _ _ _ ?_))
      clear hK11
      refine wp_condF rfl ?_
      refine wp_skip' (to_k0 (fun _ _ h => h) (hK10 _ _ _ _ _ ?_))
      clear hK10
      refine wp_reg ?_
      refine ol_r (r_move rfl) rfl ?_
      refine ol_r (r_assign rfl) rfl ?_
      refine ol_nil (to_k0 (fun _ _ h => h) (hK6 _ _ _ _ _ ?_))
      clear hK6
      refine wp_reg ?_
      refine ol_r (r_add rfl rfl (by omega)) rfl ?_
      refine ol_r (r_move rfl) rfl ?_
      refine ol_nil (to_k0 (fun _ _ h => h) (hK3 ((i + 1)) _ _ ?_ ?_ (sub_cons (by first | rfl | ((rw [eb hc25 phs28]; try rfl))) (sub_cons (by first | rfl | ((rw [eb hc25 phs28]; try rfl))) sub_nil)) (sub_cons rfl (sub_cons rfl (sub_cons rfl (sub_cons rfl (sub_cons rfl sub_nil))))) (by exact (subH_row rfl (by first | (dsimp only; rw [eb hc25 phs28]; done) | (rw [eb hc25 phs28]; done) | (dsimp only; done)) subH_nil)) (subH_same rfl (subH_same rfl (subH_same rfl (subH_same rfl (subH_same rfl subH_nil)))))))
      ·try dsimp only
       omega
      ·try dsimp only
       omega
   ·refine wp_exit' (hQ.fall rvs0 (fun _ _ h => h) fun w hb hs hB hkd => ?_)
    have hin : i = xs.length := by omega
    subst hin
    exact ⟨rfl, hb, hs.sub (subH_same rfl (subH_same rfl (subH_same rfl (subH_same rfl (subH_same rfl (subH_same rfl subH_nil)))))), hB, hkd⟩
theorem track_fill1 (B : Nat) (a : Option Addr) (n c : Nat) (xs : List SmpR) (gap : Int) (e1 e2 e3 e4 e5 : Ent) (w : World) (hlen : xs.length = n) (hB : B ≤ w.heap.size) (hok : FOk 1 xs)
    (hs : Sat B w [(900, .row a n c (encSmp.enc xs) 28 7), (901, e1), (902, e2), (903, e3), (904, e4), (905, e5)]) :
    Calls Try.prog 82 #[.slice a n c, .int .i64 gap, .func (.func 81) #[] #[], .func (.func 84) #[] #[]] w fun e w' => e = .returned (.tuple #[]) ∧ Below B w w' ∧ Sat B w' [(900, .row a n c (encSmp.enc (fillP 1 gap xs)) 28 7), (901, e1), (902, e2), (903, e3), (904, e4), (905, e5)] ∧ B ≤ w'.heap.size ∧ Kd (fun _ => False) w w' := by
  have ha : 0 < n → a.isSome = true := fun h => (hs.rd (id := 900) rfl rfl).isSome h
  have hfit : n ≤ 9223372036854775807 := (hs.rd (id := 900) rfl rfl).fit
  have hnf : ∀ x : SmpR, x.num 1 = x.power := fun _ => rfl
  refine enterQ (N := 97) (C := fun _ => False) (H := [(900, .row a n c (encSmp.enc xs) 28 7), (901, e1), (902, e2), (903, e3), (904, e4), (905, e5)]) (B := B) (args := [_, _, _, _]) Try.func82 rfl rfl rfl (hB) (hs) fun Q hQ => ?_
  refine wp_seq' fun K1 hK1 => ?_
  refine wp_reg ?_
  refine ol_r (r_assign rfl) rfl ?_
  refine ol_nil (to_k0 (fun _ _ h => h) (hK1 _ _ _ _ _ ?_))
  clear hK1
  refine wp_seq' fun K2 hK2 => ?_
  refine wp_reg ?_
  refine ol_r (r_move rfl) rfl ?_
  refine ol_r (r_len rfl sl22) rfl ?_
  refine ol_r (r_move rfl) rfl ?_
  refine ol_nil (to_k0 (fun _ _ h => h) (hK2 _ _ _ _ _ ?_))
  clear hK2
  refine wp_block' ?_
  apply wp_loopM (σ := Nat) (fun s => s ≤ n) (fun s => [(15, .int .i64 s), (8, .int .i64 (fillN 1 gap xs s).2)]) [(0, _), (1, _), (2, _), (3, _), (14, _)] (fun s => [(900, .row a n c (encSmp.enc (fillN 1 gap xs s).1) 28 7)]) [(901, _), (902, _), (903, _), (904, _), (905, _)] (fun s => n - s) (0)
  ·try dsimp only
   exact Nat.zero_le _
  ·exact (sub_cons rfl (sub_cons rfl sub_nil))
  ·exact (sub_cons rfl (sub_cons rfl (sub_cons rfl (sub_cons rfl (sub_cons rfl sub_nil)))))
  ·exact (subH_row rfl (by first | (dsimp only; rfl; done) | (rfl; done) | (dsimp only; done)) subH_nil)
  ·exact (subH_same rfl (subH_same rfl (subH_same rfl (subH_same rfl (subH_same rfl subH_nil)))))
  ·rintro i hi
   have hRl : (fillN 1 gap xs i).1.length = n := by rw [fillN_len]; exact hlen
   intro K3 hK3
   refine wp_seq' fun K4 hK4 => ?_
   refine wp_reg ?_
   refine ol_r (r_lss rfl rfl) rfl ?_
   refine ol_nil (to_k0 (fun _ _ h => h) (hK4 _ _ _ _ _ ?_))
   clear hK4
   refine wp_seq' fun K5 hK5 => ?_
   first | refine wp_condD rfl (fun hc16 => ?_) (fun hc16 => ?_) | refine wp_condN rfl (fun hc16 => ?_) (fun hc16 => ?_) | refine wp_condNB rfl (fun hc16 => ?_) (fun hc16 => ?_) | refine wp_cond' rfl (fun hc16 => ?_) (fun hc16 => ?_)
   ·refine wp_skip' (to_k0 (fun _ _ h => h) (hK5 _ _ _ _ _ ?_))
    clear hK5
    refine wp_seq' fun K6 hK6 => ?_
    refine wp_block' ?_
    refine wp_seq' fun K7 hK7 => ?_
    refine wp_reg ?_
    refine ol_r (r_move rfl) rfl ?_
    refine ol_r (r_assign rfl) rfl ?_
    refine ol_nil (to_k0 (fun _ _ h => h) (hK7 _ _ _ _ _ ?_))
    clear hK7
    refine wp_seq' fun K8 hK8 => ?_
    refine wp_seq' fun K9 hK9 => ?_
    refine wp_reg ?_
    refine ol_r (r_move rfl) rfl ?_
    refine ol_r (r_move rfl) rfl ?_
    refine ol_r (r_move rfl) rfl ?_
    refine ol_ixo (id := 900) encSmp _ rfl rfl rfl rfl sl22 (by omega) rfl fun x21 hx21 => ?_
    try simp only [Int.toNat_natCast] at hx21
    try simp only [Int.toNat_natCast] at hx21
    refine ol_call rfl rfl cb84 rfl (fun w1 hb1 hs1 hB1 => Calls.mono (track_fillNum1 a n c _ _ x21 _ (hs1.rd (id := 900) rfl rfl) (by omega) hx21) ?_)
    rintro e w2 ⟨rfl, hb2⟩
    refine After.below rfl hb1 hs1 hB1 hb2 ?_
    clear hb2 hB1 hs1 hb1 w2 w1
    refine ol_r (r_nilS rfl (some_map (some_map (ha (by omega))))) rfl ?_
    refine ol_r (r_ldw rfl (fun w1 hb1 hs1 hB1 => ld_ownF (id := 900) (o := 5) hs1 rfl rfl sc3 hx21 rfl)) rfl ?_
    have hI := fillI 1 gap xs i
    have hq : xs[i]? = some x21 := by rw [← hI.ahead i (Nat.le_refl _)]; exact hx21
    have hL : (fillN 1 gap xs i).2 < (i : Int) := by rcases hI.last with h | ⟨k, p, h1, h2, _⟩ <;> omega
    have ea : x21.power < 0 → fillN 1 gap xs (i + 1) = (fillN 1 gap xs i) := fun h => fillN_a hq h
    have eb : ¬x21.power < 0 → ¬0 ≤ (fillN 1 gap xs i).2 → fillN 1 gap xs (i + 1) = ((fillN 1 gap xs i).1, (i : Int)) := fun h h2 => fillN_b hq h h2
    refine ol_r (r_lss rfl rfl) rfl ?_
    refine ol_nil (to_k0 (fun _ _ h => h) (hK9 _ _ _ _ _ ?_))
    clear hK9
    first | refine wp_condD rfl (fun hc25 => ?_) (fun hc25 => ?_) | refine wp_condN rfl (fun hc25 => ?_) (fun hc25 => ?_) | refine wp_condNB rfl (fun hc25 => ?_) (fun hc25 => ?_) | refine wp_cond' rfl (fun hc25 => ?_) (fun hc25 => ?_)
    ·refine wp_exit' (to_k0 (fun _ _ h => h) (hK6 _ _ _ _ _ ?_))
     clear hK6
     refine wp_reg ?_
     refine ol_r (r_add rfl rfl (by omega)) rfl ?_
     refine ol_r (r_move rfl) rfl ?_
     refine ol_nil (to_k0 (fun _ _ h => h) (hK3 ((i + 1)) _ _ ?_ ?_ (sub_cons (by first | rfl | ((rw [ea hc25]; try rfl))) (sub_cons (by first | rfl | ((rw [ea hc25]; try rfl))) sub_nil)) (sub_cons rfl (sub_cons rfl (sub_cons rfl (sub_cons rfl (sub_cons rfl sub_nil))))) (by exact (subH_row rfl (by first | (dsimp only; rw [ea hc25]; done) | (rw [ea hc25]; done) | (dsimp only; done)) subH_nil)) (subH_same rfl (subH_same rfl (subH_same rfl (subH_same rfl (subH_same rfl subH_nil)))))))
     ·try dsimp only
      omega
     ·try dsimp only
      omega
    ·refine wp_skip' (to_k0 (fun _ _ h => h) (hK8 _ _ _ _ _ ?_))
     clear hK8
     refine wp_seq' fun K10 hK10 => ?_
     refine wp_seq' fun K11 hK11 => ?_
     refine wp_regq (by kernel_rfl) (by kernel_rfl) ?_
     refine ql_r (r_move rfl) rfl ?_
     refine ql_r (r_geq rfl rfl) rfl ?_
     refine ql_r (r_move rfl) rfl ?_
     refine ql_split (d := 28) rfl (fun hs28 => ?_) (fun hs28 => ?_)
     ·have phs28 := hs28; try simp only [decide_eq_true_eq, decide_eq_false_iff_not, Bool.not_eq_true', Bool.not_eq_false', Bool.not_true, Bool.not_false] at phs28
      refine ql_g rfl rfl hs28 ?_
      refine ql_r (r_move rfl) rfl ?_
      refine ql_g rfl rfl hs28 ?_
      refine ql_r (r_move rfl) rfl ?_
      refine ql_g rfl rfl hs28 ?_
      refine ql_r (r_move rfl) rfl ?_
      refine ql_g rfl rfl hs28 ?_
      refine ql_ixo (id := 900) encSmp _ rfl rfl rfl rfl sl22 (by omega) (by omega) rfl fun x32 hx32 => ?_
      try simp only [Int.toNat_natCast] at hx32
      try simp only [Int.toNat_natCast] at hx32
      refine ql_g rfl rfl hs28 ?_
      refine ql_call rfl rfl cb81 rfl (fun w1 hb1 hs1 hB1 => track_fillAt a n c _ _ x32 _ (hs1.rd (id := 900) rfl rfl) (by omega) hx32) ?_
      refine ql_g rfl rfl hs28 ?_
      refine ql_r (r_move rfl) rfl ?_
      refine ql_g rfl rfl hs28 ?_
      refine ql_r (r_move rfl) rfl ?_
      refine ql_g rfl rfl hs28 ?_
      refine ql_r (r_move rfl) rfl ?_
      refine ql_g rfl rfl hs28 ?_
      refine ql_ixo (id := 900) encSmp _ rfl rfl rfl rfl sl22 (by omega) (by omega) rfl fun x37 hx37 => ?_
      try simp only [Int.toNat_natCast] at hx37
      try simp only [Int.toNat_natCast] at hx37
      refine ql_g rfl rfl hs28 ?_
      refine ql_call rfl rfl cb81 rfl (fun w1 hb1 hs1 hB1 => track_fillAt a n c _ _ x37 _ (hs1.rd (id := 900) rfl rfl) (by omega) hx37) ?_
      refine ql_g rfl rfl hs28 ?_
      have b32 := fill_bd hI.but hok hx32
      have b37 := fill_bd hI.but hok hx37
      have e32 : x32 = x21 := Option.some.inj (hx32.symm.trans hx21)
      have hp : xs[(fillN 1 gap xs i).2.toNat]? = some x37 := by rw [← fillN_last (show (fillN 1 gap xs i).2 = (((fillN 1 gap xs i).2.toNat : Nat) : Int) by omega)]; exact hx37
      have ec : ¬x32.at_ - x37.at_ ≤ gap → fillN 1 gap xs (i + 1) = ((fillN 1 gap xs i).1, (i : Int)) := fun h => fillN_c hq hc25 phs28 hp (by rw [← e32]; exact h)
      refine ql_r (r_sub rfl rfl (by omega)) rfl ?_
      refine ql_g rfl rfl hs28 ?_
      refine ql_r (r_move rfl) rfl ?_
      refine ql_g rfl rfl hs28 ?_
      refine ql_r (r_leq rfl rfl) rfl ?_
      refine ql_r (r_pickT rfl hs28 rfl) rfl ?_
      refine ql_nil (to_k0 (fun _ _ h => h) (hK11 _ _ _ _ _ ?_))
      clear hK11
      first | refine wp_condD rfl (fun hc42 => ?_) (fun hc42 => ?_) | refine wp_condN rfl (fun hc42 => ?_) (fun hc42 => ?_) | refine wp_condNB rfl (fun hc42 => ?_) (fun hc42 => ?_) | refine wp_cond' rfl (fun hc42 => ?_) (fun hc42 => ?_)
      ·refine wp_seq' fun K12 hK12 => ?_
       refine wp_regq (by kernel_rfl) (by kernel_rfl) ?_
       refine ql_r (r_move rfl) rfl ?_
       refine ql_r (r_move rfl) rfl ?_
       refine ql_r (r_move rfl) rfl ?_
       refine ql_ixo (id := 900) encSmp _ rfl rfl rfl rfl sl22 (by omega) (by omega) rfl fun x46 hx46 => ?_
       try simp only [Int.toNat_natCast] at hx46
       try simp only [Int.toNat_natCast] at hx46
       refine ql_call rfl rfl cb84 rfl (fun w1 hb1 hs1 hB1 => track_fillNum1 a n c _ _ x46 _ (hs1.rd (id := 900) rfl rfl) (by omega) hx46) ?_
       refine ql_r (r_nilS rfl (some_map (some_map (ha (by omega))))) rfl ?_
       refine ql_r (r_ldw rfl (fun w1 hb1 hs1 hB1 => ld_ownF (id := 900) (o := 5) hs1 rfl rfl sc3 hx46 rfl)) rfl ?_
       refine ql_r (r_move rfl) rfl ?_
       refine ql_r (r_move rfl) rfl ?_
       refine ql_r (r_move rfl) rfl ?_
       refine ql_ixo (id := 900) encSmp _ rfl rfl rfl rfl sl22 (by omega) (by omega) rfl fun x53 hx53 => ?_
       try simp only [Int.toNat_natCast] at hx53
       try simp only [Int.toNat_natCast] at hx53
       refine ql_call rfl rfl cb84 rfl (fun w1 hb1 hs1 hB1 => track_fillNum1 a n c _ _ x53 _ (hs1.rd (id := 900) rfl rfl) (by omega) hx53) ?_
       refine ql_r (r_nilS rfl (some_map (some_map (ha (by omega))))) rfl ?_
       refine ql_r (r_ldw rfl (fun w1 hb1 hs1 hB1 => ld_ownF (id := 900) (o := 5) hs1 rfl rfl sc3 hx53 rfl)) rfl ?_
       refine ql_r (r_assign rfl) rfl ?_
       refine ql_r (r_assign rfl) rfl ?_
       refine ql_nil (to_k0 (fun _ _ h => h) (hK12 _ _ _ _ _ ?_))
       clear hK12
       refine wp_seq' fun K13 hK13 => ?_
       refine wp_reg ?_
       have e46 : x46 = x37 := Option.some.inj (hx46.symm.trans hx37)
       have e53 : x53 = x21 := Option.some.inj (hx53.symm.trans hx21)
       have ed : fillN 1 gap xs (i + 1) = (fillIn 1 x46 x53 (fillN 1 gap xs i).1 ((fillN 1 gap xs i).2.toNat + 1) (i - ((fillN 1 gap xs i).2.toNat + 1)), (i : Int)) := by rw [e46, e53]; exact fillN_d hq hc25 phs28 hp (by rw [← e32]; exact hc42)
       have v46 := (hok.bd _ _ hp).2.2
       have v53 := (hok.bd _ _ hq).2.2
       rw [← e46, hnf] at v46
       rw [← e53, hnf] at v53
       refine ol_r (r_move rfl) rfl ?_
       refine ol_r (r_add rfl rfl (by omega)) rfl ?_
       refine ol_r (r_assign rfl) rfl ?_
       refine ol_nil (to_k0 (fun _ _ h => h) (hK13 _ _ _ _ _ ?_))
       clear hK13
       refine wp_block' ?_
       apply wp_loopM (σ := Nat) (fun s => (fillN 1 gap xs i).2.toNat + 1 + s ≤ i) (fun s => [(12, .int .i64 ((fillN 1 gap xs i).2 + 1 + (s : Int)))]) [(0, _), (1, _), (2, _), (3, _), (8, _), (9, _), (10, _), (11, _), (14, _), (15, _)] (fun s => [(900, .row a n c (encSmp.enc (fillIn 1 x46 x53 (fillN 1 gap xs i).1 ((fillN 1 gap xs i).2.toNat + 1) s)) 28 7)]) [(901, _), (902, _), (903, _), (904, _), (905, _)] (fun s => i - s) (0)
       ·try dsimp only
        omega
       ·exact (sub_cons (by first | rfl | ((refine congrArg (fun z => some (Value.int .i64 z)) ?_; omega))) sub_nil)
       ·exact (sub_cons rfl (sub_cons rfl (sub_cons rfl (sub_cons rfl (sub_cons rfl (sub_cons rfl (sub_cons rfl (sub_cons rfl (sub_cons rfl (sub_cons rfl sub_nil))))))))))
       ·exact (subH_row rfl (by first | (dsimp only; rfl; done) | (rfl; done) | (dsimp only; done)) subH_nil)
       ·exact (subH_same rfl (subH_same rfl (subH_same rfl (subH_same rfl (subH_same rfl subH_nil)))))
       ·rintro d hd
        have hDl : (fillIn 1 x46 x53 (fillN 1 gap xs i).1 ((fillN 1 gap xs i).2.toNat + 1) d).length = n := by rw [fillIn_len]; exact hRl
        have hDb : ButF 1 (fillIn 1 x46 x53 (fillN 1 gap xs i).1 ((fillN 1 gap xs i).2.toNat + 1) d) xs := fillIn_but hI.but d
        intro K14 hK14
        refine wp_seq' fun K15 hK15 => ?_
        refine wp_seq' fun K16 hK16 => ?_
        refine wp_reg ?_
        refine ol_r (r_move rfl) rfl ?_
        refine ol_r (r_move rfl) rfl ?_
        refine ol_r (r_lss rfl rfl) rfl ?_
        refine ol_nil (to_k0 (fun _ _ h => h) (hK16 _ _ _ _ _ ?_))
        clear hK16
        first | refine wp_condD rfl (fun hc61 => ?_) (fun hc61 => ?_) | refine wp_condN rfl (fun hc61 => ?_) (fun hc61 => ?_) | refine wp_condNB rfl (fun hc61 => ?_) (fun hc61 => ?_) | refine wp_cond' rfl (fun hc61 => ?_) (fun hc61 => ?_)
        ·refine wp_skip' (to_k0 (fun _ _ h => h) (hK15 _ _ _ _ _ ?_))
         clear hK15
         refine wp_seq' fun K17 hK17 => ?_
         refine wp_block' ?_
         refine wp_regqt 31 (by kernel_rfl) (by kernel_rfl) ?_
         simp only [List.take_succ_cons, List.take_zero, List.drop_succ_cons, List.drop_zero]
         refine ql_r (r_move rfl) rfl ?_
         refine ql_r (r_move rfl) rfl ?_
         refine ql_r (r_move rfl) rfl ?_
         refine ql_ixo (id := 900) encSmp _ rfl rfl rfl rfl sl22 (by omega) (by omega) rfl fun x67 hx67 => ?_
         try simp only [Int.toNat_natCast] at hx67
         try simp only [Int.toNat_natCast] at hx67
         refine ql_call rfl rfl cb84 rfl (fun w1 hb1 hs1 hB1 => track_fillNum1 a n c _ _ x67 _ (hs1.rd (id := 900) rfl rfl) (by omega) hx67) ?_
         refine ql_r (r_move rfl) rfl ?_
         refine ql_r (r_move rfl) rfl ?_
         refine ql_r (r_move rfl) rfl ?_
         refine ql_r (r_move rfl) rfl ?_
         refine ql_r (r_move rfl) rfl ?_
         refine ql_ixo (id := 900) encSmp _ rfl rfl rfl rfl sl22 (by omega) (by omega) rfl fun x74 hx74 => ?_
         try simp only [Int.toNat_natCast] at hx74
         try simp only [Int.toNat_natCast] at hx74
         refine ql_call rfl rfl cb81 rfl (fun w1 hb1 hs1 hB1 => track_fillAt a n c _ _ x74 _ (hs1.rd (id := 900) rfl rfl) (by omega) hx74) ?_
         refine ql_r (r_move rfl) rfl ?_
         refine ql_r (r_move rfl) rfl ?_
         refine ql_r (r_move rfl) rfl ?_
         refine ql_ixo (id := 900) encSmp _ rfl rfl rfl rfl sl22 (by omega) (by omega) rfl fun x79 hx79 => ?_
         try simp only [Int.toNat_natCast] at hx79
         try simp only [Int.toNat_natCast] at hx79
         refine ql_call rfl rfl cb81 rfl (fun w1 hb1 hs1 hB1 => track_fillAt a n c _ _ x79 _ (hs1.rd (id := 900) rfl rfl) (by omega) hx79) ?_
         have b74 := fill_bd hDb hok hx74
         have b79 := fill_bd hDb hok hx79
         refine ql_r (r_sub rfl rfl (by omega)) rfl ?_
         refine ql_r (r_move rfl) rfl ?_
         refine ql_r (r_move rfl) rfl ?_
         refine ql_r (r_move rfl) rfl ?_
         refine ql_ixo (id := 900) encSmp _ rfl rfl rfl rfl sl22 (by omega) (by omega) rfl fun x85 hx85 => ?_
         try simp only [Int.toNat_natCast] at hx85
         try simp only [Int.toNat_natCast] at hx85
         refine ql_call rfl rfl cb81 rfl (fun w1 hb1 hs1 hB1 => track_fillAt a n c _ _ x85 _ (hs1.rd (id := 900) rfl rfl) (by omega) hx85) ?_
         refine ql_r (r_move rfl) rfl ?_
         refine ql_r (r_move rfl) rfl ?_
         refine ql_r (r_move rfl) rfl ?_
         refine ql_ixo (id := 900) encSmp _ rfl rfl rfl rfl sl22 (by omega) (by omega) rfl fun x90 hx90 => ?_
         try simp only [Int.toNat_natCast] at hx90
         try simp only [Int.toNat_natCast] at hx90
         refine ql_call rfl rfl cb81 rfl (fun w1 hb1 hs1 hB1 => track_fillAt a n c _ _ x90 _ (hs1.rd (id := 900) rfl rfl) (by omega) hx90) ?_
         have b85 := fill_bd hDb hok hx85
         have b90 := fill_bd hDb hok hx90
         refine ql_r (r_sub rfl rfl (by omega)) rfl ?_
         have ek : ((fillN 1 gap xs i).2 + 1 + (d : Int)).toNat = (fillN 1 gap xs i).2.toNat + 1 + d := by omega
         have ei : ((i : Nat) : Int).toNat = i := rfl
         have e74 : x74 = x67 := Option.some.inj (hx74.symm.trans hx67)
         have hpD : (fillIn 1 x46 x53 (fillN 1 gap xs i).1 ((fillN 1 gap xs i).2.toNat + 1) d)[(fillN 1 gap xs i).2.toNat]? = some x46 := by rw [fillIn_out _ _ (by omega)]; exact hx46
         have hqD : (fillIn 1 x46 x53 (fillN 1 gap xs i).1 ((fillN 1 gap xs i).2.toNat + 1) d)[i]? = some x53 := by rw [fillIn_out _ _ (by omega)]; exact hx53
         have e79 : x79 = x46 := Option.some.inj (hx79.symm.trans hpD)
         have e90 : x90 = x46 := Option.some.inj (hx90.symm.trans hpD)
         have e85 : x85 = x53 := Option.some.inj (hx85.symm.trans hqD)
         have u1 := fill_up hDb hok (show (fillN 1 gap xs i).2.toNat < ((fillN 1 gap xs i).2 + 1 + (d : Int)).toNat by omega) hpD hx67
         have u2 := fill_up hDb hok (show ((fillN 1 gap xs i).2 + 1 + (d : Int)).toNat < i by omega) hx67 hqD
         have u3 := fill_bd hDb hok hpD
         have u4 := fill_bd hDb hok hqD
         rw [← e74] at u1 u2
         rw [← e79] at u1
         have u5 := congrArg SmpR.at_ e90
         have u6 := congrArg SmpR.at_ e79
         rw [← e85] at u2
         refine ql_call rfl rfl cb121 rfl (fun w1 hb1 hs1 hB1 => track_between _ _ _ _ _ (by omega) (by omega) (by omega) (by omega) (by omega)) ?_
         refine ql_r (r_nilS rfl (some_map (some_map (ha (by omega))))) rfl ?_
         refine ql_tail ?_
         refine ol_storeRowF (id := 900) _ _ (x67.setNum 1 (btw x46.power x53.power (x74.at_ - x79.at_) (x85.at_ - x90.at_))) rfl rfl rfl rfl rfl rfl sz3 hx67 (by decide) rfl ?_
         refine ol_nil (to_k0 (fun _ _ h => h) (hK17 _ _ _ _ _ ?_))
         clear hK17
         refine wp_reg ?_
         refine ol_r (r_move rfl) rfl ?_
         refine ol_r (r_add rfl rfl (by omega)) rfl ?_
         refine ol_r (r_assign rfl) rfl ?_
         refine ol_nil (to_k0 (fun _ _ h => h) (hK14 ((d + 1)) _ _ ?_ ?_ (sub_cons (by first | rfl | ((refine congrArg (fun z => some (Value.int .i64 z)) ?_; omega))) sub_nil) (sub_cons rfl (sub_cons rfl (sub_cons rfl (sub_cons rfl (sub_cons rfl (sub_cons rfl (sub_cons rfl (sub_cons rfl (sub_cons rfl (sub_cons rfl sub_nil)))))))))) (by exact (subH_row rfl (by first | (dsimp only; rw [fill_step (n := x74.at_ - x79.at_) (n2 := x85.at_ - x90.at_) (x := x67) (by rw [ek] at hx67; exact hx67) (by rw [e74, e79]) (by rw [e85, e90]), ← ek]; first | done | rfl; done) | (rw [fill_step (n := x74.at_ - x79.at_) (n2 := x85.at_ - x90.at_) (x := x67) (by rw [ek] at hx67; exact hx67) (by rw [e74, e79]) (by rw [e85, e90]), ← ek]; first | done | rfl; done) | (dsimp only; done)) subH_nil)) (subH_same rfl (subH_same rfl (subH_same rfl (subH_same rfl (subH_same rfl subH_nil)))))))
         ·try dsimp only
          omega
         ·try dsimp only
          omega
        ·refine wp_exit' (to_k0 (fun _ _ h => h) (hK10 _ _ _ _ _ ?_))
         clear hK10
         refine wp_reg ?_
         refine ol_r (r_move rfl) rfl ?_
         refine ol_r (r_assign rfl) rfl ?_
         refine ol_nil (to_k0 (fun _ _ h => h) (hK6 _ _ _ _ _ ?_))
         clear hK6
         refine wp_reg ?_
         refine ol_r (r_add rfl rfl (by omega)) rfl ?_
         refine ol_r (r_move rfl) rfl ?_
         refine ol_nil (to_k0 (fun _ _ h => h) (hK3 ((i + 1)) _ _ ?_ ?_ (sub_cons (by first | rfl | ((rw [ed]; try rfl))) (sub_cons (by first | rfl | ((rw [ed]; try rfl))) sub_nil)) (sub_cons rfl (sub_cons rfl (sub_cons rfl (sub_cons rfl (sub_cons rfl sub_nil))))) (by exact (subH_row rfl (by first | (dsimp only; rw [ed, show i - ((fillN 1 gap xs i).2.toNat + 1) = d by omega]; done) | (rw [ed, show i - ((fillN 1 gap xs i).2.toNat + 1) = d by omega]; done) | (dsimp only; done)) subH_nil)) (subH_same rfl (subH_same rfl (subH_same rfl (subH_same rfl (subH_same rfl subH_nil)))))))
         ·try dsimp only
          omega
         ·try dsimp only
          omega
      ·refine wp_skip' (to_k0 (fun _ _ h => h) (hK10 _ _ _ _ _ ?_))
       clear hK10
       refine wp_reg ?_
       refine ol_r (r_move rfl) rfl ?_
       refine ol_r (r_assign rfl) rfl ?_
       refine ol_nil (to_k0 (fun _ _ h => h) (hK6 _ _ _ _ _ ?_))
       clear hK6
       refine wp_reg ?_
       refine ol_r (r_add rfl rfl (by omega)) rfl ?_
       refine ol_r (r_move rfl) rfl ?_
       refine ol_nil (to_k0 (fun _ _ h => h) (hK3 ((i + 1)) _ _ ?_ ?_ (sub_cons (by first | rfl | ((rw [ec hc42]; try rfl))) (sub_cons (by first | rfl | ((rw [ec hc42]; try rfl))) sub_nil)) (sub_cons rfl (sub_cons rfl (sub_cons rfl (sub_cons rfl (sub_cons rfl sub_nil))))) (by exact (subH_row rfl (by first | (dsimp only; rw [ec hc42]; done) | (rw [ec hc42]; done) | (dsimp only; done)) subH_nil)) (subH_same rfl (subH_same rfl (subH_same rfl (subH_same rfl (subH_same rfl subH_nil)))))))
       ·try dsimp only
        omega
       ·try dsimp only
        omega
     ·have phs28 := hs28; try simp only [decide_eq_true_eq, decide_eq_false_iff_not, Bool.not_eq_true', Bool.not_eq_false', Bool.not_true, Bool.not_false] at phs28
      refine ql_s rfl rfl hs28 rfl ?_
      refine ql_s rfl rfl hs28 rfl ?_
      refine ql_s rfl rfl hs28 rfl ?_
      refine ql_s rfl rfl hs28 rfl ?_
      refine ql_s rfl rfl hs28 rfl ?_
      refine ql_s rfl rfl hs28 rfl ?_
      refine ql_s rfl rfl hs28 rfl ?_
      refine ql_s rfl rfl hs28 rfl ?_
      refine ql_s rfl rfl hs28 rfl ?_
      refine ql_s rfl rfl hs28 rfl ?_
      refine ql_s rfl rfl hs28 rfl ?_
      refine ql_s rfl rfl hs28 rfl ?_
      refine ql_s rfl rfl hs28 rfl ?_
      refine ql_r (r_pickF rfl hs28 rfl) rfl ?_
      refine ql_nil (to_k0 (fun _ _ h => h) (hK11 _ _ _ _ _ ?_))
      clear hK11
      refine wp_condF rfl ?_
      refine wp_skip' (to_k0 (fun _ _ h => h) (hK10 _ _ _ _ _ ?_))
      clear hK10
      refine wp_reg ?_
      refine ol_r (r_move rfl) rfl ?_
      refine ol_r (r_assign rfl) rfl ?_
      refine ol_nil (to_k0 (fun _ _ h => h) (hK6 _ _ _ _ _ ?_))
      clear hK6
      refine wp_reg ?_
      refine ol_r (r_add rfl rfl (by omega)) rfl ?_
      refine ol_r (r_move rfl) rfl ?_
      refine ol_nil (to_k0 (fun _ _ h => h) (hK3 ((i + 1)) _ _ ?_ ?_ (sub_cons (by first | rfl | ((rw [eb hc25 phs28]; try rfl))) (sub_cons (by first | rfl | ((rw [eb hc25 phs28]; try rfl))) sub_nil)) (sub_cons rfl (sub_cons rfl (sub_cons rfl (sub_cons rfl (sub_cons rfl sub_nil))))) (by exact (subH_row rfl (by first | (dsimp only; rw [eb hc25 phs28]; done) | (rw [eb hc25 phs28]; done) | (dsimp only; done)) subH_nil)) (subH_same rfl (subH_same rfl (subH_same rfl (subH_same rfl (subH_same rfl subH_nil)))))))
      ·try dsimp only
       omega
      ·try dsimp only
       omega
   ·refine wp_exit' (hQ.fall rvs0 (fun _ _ h => h) fun w hb hs hB hkd => ?_)
    have hin : i = xs.length := by omega
    subst hin
    exact ⟨rfl, hb, hs.sub (subH_same rfl (subH_same rfl (subH_same rfl (subH_same rfl (subH_same rfl (subH_same rfl subH_nil)))))), hB, hkd⟩
theorem track_fill2 (B : Nat) (a : Option Addr) (n c : Nat) (xs : List SmpR) (gap : Int) (e1 e2 e3 e4 e5 : Ent) (w : World) (hlen : xs.length = n) (hB : B ≤ w.heap.size) (hok : FOk 2 xs)
    (hs : Sat B w [(900, .row a n c (encSmp.enc xs) 28 7), (901, e1), (902, e2), (903, e3), (904, e4), (905, e5)]) :
    Calls Try.prog 82 #[.slice a n c, .int .i64 gap, .func (.func 81) #[] #[], .func (.func 85) #[] #[]] w fun e w' => e = .returned (.tuple #[]) ∧ Below B w w' ∧ Sat B w' [(900, .row a n c (encSmp.enc (fillP 2 gap xs)) 28 7), (901, e1), (902, e2), (903, e3), (904, e4), (905, e5)] ∧ B ≤ w'.heap.size ∧ Kd (fun _ => False) w w' := by
  have ha : 0 < n → a.isSome = true := fun h => (hs.rd (id := 900) rfl rfl).isSome h
  have hfit : n ≤ 9223372036854775807 := (hs.rd (id := 900) rfl rfl).fit
  have hnf : ∀ x : SmpR, x.num 2 = x.steps := fun _ => rfl
  refine enterQ (N := 97) (C := fun _ => False) (H := [(900, .row a n c (encSmp.enc xs) 28 7), (901, e1), (902, e2), (903, e3), (904, e4), (905, e5)]) (B := B) (args := [_, _, _, _]) Try.func82 rfl rfl rfl (hB) (hs) fun Q hQ => ?_
  refine wp_seq' fun K1 hK1 => ?_
  refine wp_reg ?_
  refine ol_r (r_assign rfl) rfl ?_
  refine ol_nil (to_k0 (fun _ _ h => h) (hK1 _ _ _ _ _ ?_))
  clear hK1
  refine wp_seq' fun K2 hK2 => ?_
  refine wp_reg ?_
  refine ol_r (r_move rfl) rfl ?_
  refine ol_r (r_len rfl sl22) rfl ?_
  refine ol_r (r_move rfl) rfl ?_
  refine ol_nil (to_k0 (fun _ _ h => h) (hK2 _ _ _ _ _ ?_))
  clear hK2
  refine wp_block' ?_
  apply wp_loopM (σ := Nat) (fun s => s ≤ n) (fun s => [(15, .int .i64 s), (8, .int .i64 (fillN 2 gap xs s).2)]) [(0, _), (1, _), (2, _), (3, _), (14, _)] (fun s => [(900, .row a n c (encSmp.enc (fillN 2 gap xs s).1) 28 7)]) [(901, _), (902, _), (903, _), (904, _), (905, _)] (fun s => n - s) (0)
  ·try dsimp only
   exact Nat.zero_le _
  ·exact (sub_cons rfl (sub_cons rfl sub_nil))
  ·exact (sub_cons rfl (sub_cons rfl (sub_cons rfl (sub_cons rfl (sub_cons rfl sub_nil)))))
  ·exact (subH_row rfl (by first | (dsimp only; rfl; done) | (rfl; done) | (dsimp only; done)) subH_nil)
  ·exact (subH_same rfl (subH_same rfl (subH_same rfl (subH_same rfl (subH_same rfl subH_nil)))))
  ·rintro i hi
   have hRl : (fillN 2 gap xs i).1.length = n := by rw [fillN_len]; exact hlen
   intro K3 hK3
   refine wp_seq' fun K4 hK4 => ?_
   refine wp_reg ?_
   refine ol_r (r_lss rfl rfl) rfl ?_
   refine ol_nil (to_k0 (fun _ _ h => h) (hK4 _ _ _ _ _ ?_))
   clear hK4
   refine wp_seq' fun K5 hK5 => ?_
   first | refine wp_condD rfl (fun hc16 => ?_) (fun hc16 => ?_) | refine wp_condN rfl (fun hc16 => ?_) (fun hc16 => ?_) | refine wp_condNB rfl (fun hc16 => ?_) (fun hc16 => ?_) | refine wp_cond' rfl (fun hc16 => ?_) (fun hc16 => ?_)
   ·refine wp_skip' (to_k0 (fun _ _ h => h) (hK5 _ _ _ _ _ ?_))
    clear hK5
    refine wp_seq' fun K6 hK6 => ?_
    refine wp_block' ?_
    refine wp_seq' fun K7 hK7 => ?_
    refine wp_reg ?_
    refine ol_r (r_move rfl) rfl ?_
    refine ol_r (r_assign rfl) rfl ?_
    refine ol_nil (to_k0 (fun _ _ h => h) (hK7 _ _ _ _ _ ?_))
    clear hK7
    refine wp_seq' fun K8 hK8 => ?_
    refine wp_seq' fun K9 hK9 => ?_
    refine wp_reg ?_
    refine ol_r (r_move rfl) rfl ?_
    refine ol_r (r_move rfl) rfl ?_
    refine ol_r (r_move rfl) rfl ?_
    refine ol_ixo (id := 900) encSmp _ rfl rfl rfl rfl sl22 (by omega) rfl fun x21 hx21 => ?_
    try simp only [Int.toNat_natCast] at hx21
    try simp only [Int.toNat_natCast] at hx21
    refine ol_call rfl rfl cb85 rfl (fun w1 hb1 hs1 hB1 => Calls.mono (track_fillNum2 a n c _ _ x21 _ (hs1.rd (id := 900) rfl rfl) (by omega) hx21) ?_)
    rintro e w2 ⟨rfl, hb2⟩
    refine After.below rfl hb1 hs1 hB1 hb2 ?_
    clear hb2 hB1 hs1 hb1 w2 w1
    refine ol_r (r_nilS rfl (some_map (some_map (ha (by omega))))) rfl ?_
    refine ol_r (r_ldw rfl (fun w1 hb1 hs1 hB1 => ld_ownF (id := 900) (o := 6) hs1 rfl rfl sc3 hx21 rfl)) rfl ?_
    have hI := fillI 2 gap xs i
    have hq : xs[i]? = some x21 := by rw [← hI.ahead i (Nat.le_refl _)]; exact hx21
    have hL : (fillN 2 gap xs i).2 < (i : Int) := by rcases hI.last with h | ⟨k, p, h1, h2, _⟩ <;> omega
    have ea : x21.steps < 0 → fillN 2 gap xs (i + 1) = (fillN 2 gap xs i) := fun h => fillN_a hq h
    have eb : ¬x21.steps < 0 → ¬0 ≤ (fillN 2 gap xs i).2 → fillN 2 gap xs (i + 1) = ((fillN 2 gap xs i).1, (i : Int)) := fun h h2 => fillN_b hq h h2
    refine ol_r (r_lss rfl rfl) rfl ?_
    refine ol_nil (to_k0 (fun _ _ h => h) (hK9 _ _ _ _ _ ?_))
    clear hK9
    first | refine wp_condD rfl (fun hc25 => ?_) (fun hc25 => ?_) | refine wp_condN rfl (fun hc25 => ?_) (fun hc25 => ?_) | refine wp_condNB rfl (fun hc25 => ?_) (fun hc25 => ?_) | refine wp_cond' rfl (fun hc25 => ?_) (fun hc25 => ?_)
    ·refine wp_exit' (to_k0 (fun _ _ h => h) (hK6 _ _ _ _ _ ?_))
     clear hK6
     refine wp_reg ?_
     refine ol_r (r_add rfl rfl (by omega)) rfl ?_
     refine ol_r (r_move rfl) rfl ?_
     refine ol_nil (to_k0 (fun _ _ h => h) (hK3 ((i + 1)) _ _ ?_ ?_ (sub_cons (by first | rfl | ((rw [ea hc25]; try rfl))) (sub_cons (by first | rfl | ((rw [ea hc25]; try rfl))) sub_nil)) (sub_cons rfl (sub_cons rfl (sub_cons rfl (sub_cons rfl (sub_cons rfl sub_nil))))) (by exact (subH_row rfl (by first | (dsimp only; rw [ea hc25]; done) | (rw [ea hc25]; done) | (dsimp only; done)) subH_nil)) (subH_same rfl (subH_same rfl (subH_same rfl (subH_same rfl (subH_same rfl subH_nil)))))))
     ·try dsimp only
      omega
     ·try dsimp only
      omega
    ·refine wp_skip' (to_k0 (fun _ _ h => h) (hK8 _ _ _ _ _ ?_))
     clear hK8
     refine wp_seq' fun K10 hK10 => ?_
     refine wp_seq' fun K11 hK11 => ?_
     refine wp_regq (by kernel_rfl) (by kernel_rfl) ?_
     refine ql_r (r_move rfl) rfl ?_
     refine ql_r (r_geq rfl rfl) rfl ?_
     refine ql_r (r_move rfl) rfl ?_
     refine ql_split (d := 28) rfl (fun hs28 => ?_) (fun hs28 => ?_)
     ·have phs28 := hs28; try simp only [decide_eq_true_eq, decide_eq_false_iff_not, Bool.not_eq_true', Bool.not_eq_false', Bool.not_true, Bool.not_false] at phs28
      refine ql_g rfl rfl hs28 ?_
      refine ql_r (r_move rfl) rfl ?_
      refine ql_g rfl rfl hs28 ?_
      refine ql_r (r_move rfl) rfl ?_
      refine ql_g rfl rfl hs28 ?_
      refine ql_r (r_move rfl) rfl ?_
      refine ql_g rfl rfl hs28 ?_
      refine ql_ixo (id := 900) encSmp _ rfl rfl rfl rfl sl22 (by omega) (by omega) rfl fun x32 hx32 => ?_
      try simp only [Int.toNat_natCast] at hx32
      try simp only [Int.toNat_natCast] at hx32
      refine ql_g rfl rfl hs28 ?_
      refine ql_call rfl rfl cb81 rfl (fun w1 hb1 hs1 hB1 => track_fillAt a n c _ _ x32 _ (hs1.rd (id := 900) rfl rfl) (by omega) hx32) ?_
      refine ql_g rfl rfl hs28 ?_
      refine ql_r (r_move rfl) rfl ?_
      refine ql_g rfl rfl hs28 ?_
      refine ql_r (r_move rfl) rfl ?_
      refine ql_g rfl rfl hs28 ?_
      refine ql_r (r_move rfl) rfl ?_
      refine ql_g rfl rfl hs28 ?_
      refine ql_ixo (id := 900) encSmp _ rfl rfl rfl rfl sl22 (by omega) (by omega) rfl fun x37 hx37 => ?_
      try simp only [Int.toNat_natCast] at hx37
      try simp only [Int.toNat_natCast] at hx37
      refine ql_g rfl rfl hs28 ?_
      refine ql_call rfl rfl cb81 rfl (fun w1 hb1 hs1 hB1 => track_fillAt a n c _ _ x37 _ (hs1.rd (id := 900) rfl rfl) (by omega) hx37) ?_
      refine ql_g rfl rfl hs28 ?_
      have b32 := fill_bd hI.but hok hx32
      have b37 := fill_bd hI.but hok hx37
      have e32 : x32 = x21 := Option.some.inj (hx32.symm.trans hx21)
      have hp : xs[(fillN 2 gap xs i).2.toNat]? = some x37 := by rw [← fillN_last (show (fillN 2 gap xs i).2 = (((fillN 2 gap xs i).2.toNat : Nat) : Int) by omega)]; exact hx37
      have ec : ¬x32.at_ - x37.at_ ≤ gap → fillN 2 gap xs (i + 1) = ((fillN 2 gap xs i).1, (i : Int)) := fun h => fillN_c hq hc25 phs28 hp (by rw [← e32]; exact h)
      refine ql_r (r_sub rfl rfl (by omega)) rfl ?_
      refine ql_g rfl rfl hs28 ?_
      refine ql_r (r_move rfl) rfl ?_
      refine ql_g rfl rfl hs28 ?_
      refine ql_r (r_leq rfl rfl) rfl ?_
      refine ql_r (r_pickT rfl hs28 rfl) rfl ?_
      refine ql_nil (to_k0 (fun _ _ h => h) (hK11 _ _ _ _ _ ?_))
      clear hK11
      first | refine wp_condD rfl (fun hc42 => ?_) (fun hc42 => ?_) | refine wp_condN rfl (fun hc42 => ?_) (fun hc42 => ?_) | refine wp_condNB rfl (fun hc42 => ?_) (fun hc42 => ?_) | refine wp_cond' rfl (fun hc42 => ?_) (fun hc42 => ?_)
      ·refine wp_seq' fun K12 hK12 => ?_
       refine wp_regq (by kernel_rfl) (by kernel_rfl) ?_
       refine ql_r (r_move rfl) rfl ?_
       refine ql_r (r_move rfl) rfl ?_
       refine ql_r (r_move rfl) rfl ?_
       refine ql_ixo (id := 900) encSmp _ rfl rfl rfl rfl sl22 (by omega) (by omega) rfl fun x46 hx46 => ?_
       try simp only [Int.toNat_natCast] at hx46
       try simp only [Int.toNat_natCast] at hx46
       refine ql_call rfl rfl cb85 rfl (fun w1 hb1 hs1 hB1 => track_fillNum2 a n c _ _ x46 _ (hs1.rd (id := 900) rfl rfl) (by omega) hx46) ?_
       refine ql_r (r_nilS rfl (some_map (some_map (ha (by omega))))) rfl ?_
       refine ql_r (r_ldw rfl (fun w1 hb1 hs1 hB1 => ld_ownF (id := 900) (o := 6) hs1 rfl rfl sc3 hx46 rfl)) rfl ?_
       refine ql_r (r_move rfl) rfl ?_
       refine ql_r (r_move rfl) rfl ?_
       refine ql_r (r_move rfl) rfl ?_
       refine ql_ixo (id := 900) encSmp _ rfl rfl rfl rfl sl22 (by omega) (by omega) rfl fun x53 hx53 => ?_
       try simp only [Int.toNat_natCast] at hx53
       try simp only [Int.toNat_natCast] at hx53
       refine ql_call rfl rfl cb85 rfl (fun w1 hb1 hs1 hB1 => track_fillNum2 a n c _ _ x53 _ (hs1.rd (id := 900) rfl rfl) (by omega) hx53) ?_
       refine ql_r (r_nilS rfl (some_map (some_map (ha (by omega))))) rfl ?_
       refine ql_r (r_ldw rfl (fun w1 hb1 hs1 hB1 => ld_ownF (id := 900) (o := 6) hs1 rfl rfl sc3 hx53 rfl)) rfl ?_
       refine ql_r (r_assign rfl) rfl ?_
       refine ql_r (r_assign rfl) rfl ?_
       refine ql_nil (to_k0 (fun _ _ h => h) (hK12 _ _ _ _ _ ?_))
       clear hK12
       refine wp_seq' fun K13 hK13 => ?_
       refine wp_reg ?_
       have e46 : x46 = x37 := Option.some.inj (hx46.symm.trans hx37)
       have e53 : x53 = x21 := Option.some.inj (hx53.symm.trans hx21)
       have ed : fillN 2 gap xs (i + 1) = (fillIn 2 x46 x53 (fillN 2 gap xs i).1 ((fillN 2 gap xs i).2.toNat + 1) (i - ((fillN 2 gap xs i).2.toNat + 1)), (i : Int)) := by rw [e46, e53]; exact fillN_d hq hc25 phs28 hp (by rw [← e32]; exact hc42)
       have v46 := (hok.bd _ _ hp).2.2
       have v53 := (hok.bd _ _ hq).2.2
       rw [← e46, hnf] at v46
       rw [← e53, hnf] at v53
       refine ol_r (r_move rfl) rfl ?_
       refine ol_r (r_add rfl rfl (by omega)) rfl ?_
       refine ol_r (r_assign rfl) rfl ?_
       refine ol_nil (to_k0 (fun _ _ h => h) (hK13 _ _ _ _ _ ?_))
       clear hK13
       refine wp_block' ?_
       apply wp_loopM (σ := Nat) (fun s => (fillN 2 gap xs i).2.toNat + 1 + s ≤ i) (fun s => [(12, .int .i64 ((fillN 2 gap xs i).2 + 1 + (s : Int)))]) [(0, _), (1, _), (2, _), (3, _), (8, _), (9, _), (10, _), (11, _), (14, _), (15, _)] (fun s => [(900, .row a n c (encSmp.enc (fillIn 2 x46 x53 (fillN 2 gap xs i).1 ((fillN 2 gap xs i).2.toNat + 1) s)) 28 7)]) [(901, _), (902, _), (903, _), (904, _), (905, _)] (fun s => i - s) (0)
       ·try dsimp only
        omega
       ·exact (sub_cons (by first | rfl | ((refine congrArg (fun z => some (Value.int .i64 z)) ?_; omega))) sub_nil)
       ·exact (sub_cons rfl (sub_cons rfl (sub_cons rfl (sub_cons rfl (sub_cons rfl (sub_cons rfl (sub_cons rfl (sub_cons rfl (sub_cons rfl (sub_cons rfl sub_nil))))))))))
       ·exact (subH_row rfl (by first | (dsimp only; rfl; done) | (rfl; done) | (dsimp only; done)) subH_nil)
       ·exact (subH_same rfl (subH_same rfl (subH_same rfl (subH_same rfl (subH_same rfl subH_nil)))))
       ·rintro d hd
        have hDl : (fillIn 2 x46 x53 (fillN 2 gap xs i).1 ((fillN 2 gap xs i).2.toNat + 1) d).length = n := by rw [fillIn_len]; exact hRl
        have hDb : ButF 2 (fillIn 2 x46 x53 (fillN 2 gap xs i).1 ((fillN 2 gap xs i).2.toNat + 1) d) xs := fillIn_but hI.but d
        intro K14 hK14
        refine wp_seq' fun K15 hK15 => ?_
        refine wp_seq' fun K16 hK16 => ?_
        refine wp_reg ?_
        refine ol_r (r_move rfl) rfl ?_
        refine ol_r (r_move rfl) rfl ?_
        refine ol_r (r_lss rfl rfl) rfl ?_
        refine ol_nil (to_k0 (fun _ _ h => h) (hK16 _ _ _ _ _ ?_))
        clear hK16
        first | refine wp_condD rfl (fun hc61 => ?_) (fun hc61 => ?_) | refine wp_condN rfl (fun hc61 => ?_) (fun hc61 => ?_) | refine wp_condNB rfl (fun hc61 => ?_) (fun hc61 => ?_) | refine wp_cond' rfl (fun hc61 => ?_) (fun hc61 => ?_)
        ·refine wp_skip' (to_k0 (fun _ _ h => h) (hK15 _ _ _ _ _ ?_))
         clear hK15
         refine wp_seq' fun K17 hK17 => ?_
         refine wp_block' ?_
         refine wp_regqt 31 (by kernel_rfl) (by kernel_rfl) ?_
         simp only [List.take_succ_cons, List.take_zero, List.drop_succ_cons, List.drop_zero]
         refine ql_r (r_move rfl) rfl ?_
         refine ql_r (r_move rfl) rfl ?_
         refine ql_r (r_move rfl) rfl ?_
         refine ql_ixo (id := 900) encSmp _ rfl rfl rfl rfl sl22 (by omega) (by omega) rfl fun x67 hx67 => ?_
         try simp only [Int.toNat_natCast] at hx67
         try simp only [Int.toNat_natCast] at hx67
         refine ql_call rfl rfl cb85 rfl (fun w1 hb1 hs1 hB1 => track_fillNum2 a n c _ _ x67 _ (hs1.rd (id := 900) rfl rfl) (by omega) hx67) ?_
         refine ql_r (r_move rfl) rfl ?_
         refine ql_r (r_move rfl) rfl ?_
         refine ql_r (r_move rfl) rfl ?_
         refine ql_r (r_move rfl) rfl ?_
         refine ql_r (r_move rfl) rfl ?_
         refine ql_ixo (id := 900) encSmp _ rfl rfl rfl rfl sl22 (by omega) (by omega) rfl fun x74 hx74 => ?_
         try simp only [Int.toNat_natCast] at hx74
         try simp only [Int.toNat_natCast] at hx74
         refine ql_call rfl rfl cb81 rfl (fun w1 hb1 hs1 hB1 => track_fillAt a n c _ _ x74 _ (hs1.rd (id := 900) rfl rfl) (by omega) hx74) ?_
         refine ql_r (r_move rfl) rfl ?_
         refine ql_r (r_move rfl) rfl ?_
         refine ql_r (r_move rfl) rfl ?_
         refine ql_ixo (id := 900) encSmp _ rfl rfl rfl rfl sl22 (by omega) (by omega) rfl fun x79 hx79 => ?_
         try simp only [Int.toNat_natCast] at hx79
         try simp only [Int.toNat_natCast] at hx79
         refine ql_call rfl rfl cb81 rfl (fun w1 hb1 hs1 hB1 => track_fillAt a n c _ _ x79 _ (hs1.rd (id := 900) rfl rfl) (by omega) hx79) ?_
         have b74 := fill_bd hDb hok hx74
         have b79 := fill_bd hDb hok hx79
         refine ql_r (r_sub rfl rfl (by omega)) rfl ?_
         refine ql_r (r_move rfl) rfl ?_
         refine ql_r (r_move rfl) rfl ?_
         refine ql_r (r_move rfl) rfl ?_
         refine ql_ixo (id := 900) encSmp _ rfl rfl rfl rfl sl22 (by omega) (by omega) rfl fun x85 hx85 => ?_
         try simp only [Int.toNat_natCast] at hx85
         try simp only [Int.toNat_natCast] at hx85
         refine ql_call rfl rfl cb81 rfl (fun w1 hb1 hs1 hB1 => track_fillAt a n c _ _ x85 _ (hs1.rd (id := 900) rfl rfl) (by omega) hx85) ?_
         refine ql_r (r_move rfl) rfl ?_
         refine ql_r (r_move rfl) rfl ?_
         refine ql_r (r_move rfl) rfl ?_
         refine ql_ixo (id := 900) encSmp _ rfl rfl rfl rfl sl22 (by omega) (by omega) rfl fun x90 hx90 => ?_
         try simp only [Int.toNat_natCast] at hx90
         try simp only [Int.toNat_natCast] at hx90
         refine ql_call rfl rfl cb81 rfl (fun w1 hb1 hs1 hB1 => track_fillAt a n c _ _ x90 _ (hs1.rd (id := 900) rfl rfl) (by omega) hx90) ?_
         have b85 := fill_bd hDb hok hx85
         have b90 := fill_bd hDb hok hx90
         refine ql_r (r_sub rfl rfl (by omega)) rfl ?_
         have ek : ((fillN 2 gap xs i).2 + 1 + (d : Int)).toNat = (fillN 2 gap xs i).2.toNat + 1 + d := by omega
         have ei : ((i : Nat) : Int).toNat = i := rfl
         have e74 : x74 = x67 := Option.some.inj (hx74.symm.trans hx67)
         have hpD : (fillIn 2 x46 x53 (fillN 2 gap xs i).1 ((fillN 2 gap xs i).2.toNat + 1) d)[(fillN 2 gap xs i).2.toNat]? = some x46 := by rw [fillIn_out _ _ (by omega)]; exact hx46
         have hqD : (fillIn 2 x46 x53 (fillN 2 gap xs i).1 ((fillN 2 gap xs i).2.toNat + 1) d)[i]? = some x53 := by rw [fillIn_out _ _ (by omega)]; exact hx53
         have e79 : x79 = x46 := Option.some.inj (hx79.symm.trans hpD)
         have e90 : x90 = x46 := Option.some.inj (hx90.symm.trans hpD)
         have e85 : x85 = x53 := Option.some.inj (hx85.symm.trans hqD)
         have u1 := fill_up hDb hok (show (fillN 2 gap xs i).2.toNat < ((fillN 2 gap xs i).2 + 1 + (d : Int)).toNat by omega) hpD hx67
         have u2 := fill_up hDb hok (show ((fillN 2 gap xs i).2 + 1 + (d : Int)).toNat < i by omega) hx67 hqD
         have u3 := fill_bd hDb hok hpD
         have u4 := fill_bd hDb hok hqD
         rw [← e74] at u1 u2
         rw [← e79] at u1
         have u5 := congrArg SmpR.at_ e90
         have u6 := congrArg SmpR.at_ e79
         rw [← e85] at u2
         refine ql_call rfl rfl cb121 rfl (fun w1 hb1 hs1 hB1 => track_between _ _ _ _ _ (by omega) (by omega) (by omega) (by omega) (by omega)) ?_
         refine ql_r (r_nilS rfl (some_map (some_map (ha (by omega))))) rfl ?_
         refine ql_tail ?_
         refine ol_storeRowF (id := 900) _ _ (x67.setNum 2 (btw x46.steps x53.steps (x74.at_ - x79.at_) (x85.at_ - x90.at_))) rfl rfl rfl rfl rfl rfl sz3 hx67 (by decide) rfl ?_
         refine ol_nil (to_k0 (fun _ _ h => h) (hK17 _ _ _ _ _ ?_))
         clear hK17
         refine wp_reg ?_
         refine ol_r (r_move rfl) rfl ?_
         refine ol_r (r_add rfl rfl (by omega)) rfl ?_
         refine ol_r (r_assign rfl) rfl ?_
         refine ol_nil (to_k0 (fun _ _ h => h) (hK14 ((d + 1)) _ _ ?_ ?_ (sub_cons (by first | rfl | ((refine congrArg (fun z => some (Value.int .i64 z)) ?_; omega))) sub_nil) (sub_cons rfl (sub_cons rfl (sub_cons rfl (sub_cons rfl (sub_cons rfl (sub_cons rfl (sub_cons rfl (sub_cons rfl (sub_cons rfl (sub_cons rfl sub_nil)))))))))) (by exact (subH_row rfl (by first | (dsimp only; rw [fill_step (n := x74.at_ - x79.at_) (n2 := x85.at_ - x90.at_) (x := x67) (by rw [ek] at hx67; exact hx67) (by rw [e74, e79]) (by rw [e85, e90]), ← ek]; first | done | rfl; done) | (rw [fill_step (n := x74.at_ - x79.at_) (n2 := x85.at_ - x90.at_) (x := x67) (by rw [ek] at hx67; exact hx67) (by rw [e74, e79]) (by rw [e85, e90]), ← ek]; first | done | rfl; done) | (dsimp only; done)) subH_nil)) (subH_same rfl (subH_same rfl (subH_same rfl (subH_same rfl (subH_same rfl subH_nil)))))))
         ·try dsimp only
          omega
         ·try dsimp only
          omega
        ·refine wp_exit' (to_k0 (fun _ _ h => h) (hK10 _ _ _ _ _ ?_))
         clear hK10
         refine wp_reg ?_
         refine ol_r (r_move rfl) rfl ?_
         refine ol_r (r_assign rfl) rfl ?_
         refine ol_nil (to_k0 (fun _ _ h => h) (hK6 _ _ _ _ _ ?_))
         clear hK6
         refine wp_reg ?_
         refine ol_r (r_add rfl rfl (by omega)) rfl ?_
         refine ol_r (r_move rfl) rfl ?_
         refine ol_nil (to_k0 (fun _ _ h => h) (hK3 ((i + 1)) _ _ ?_ ?_ (sub_cons (by first | rfl | ((rw [ed]; try rfl))) (sub_cons (by first | rfl | ((rw [ed]; try rfl))) sub_nil)) (sub_cons rfl (sub_cons rfl (sub_cons rfl (sub_cons rfl (sub_cons rfl sub_nil))))) (by exact (subH_row rfl (by first | (dsimp only; rw [ed, show i - ((fillN 2 gap xs i).2.toNat + 1) = d by omega]; done) | (rw [ed, show i - ((fillN 2 gap xs i).2.toNat + 1) = d by omega]; done) | (dsimp only; done)) subH_nil)) (subH_same rfl (subH_same rfl (subH_same rfl (subH_same rfl (subH_same rfl subH_nil)))))))
         ·try dsimp only
          omega
         ·try dsimp only
          omega
      ·refine wp_skip' (to_k0 (fun _ _ h => h) (hK10 _ _ _ _ _ ?_))
       clear hK10
       refine wp_reg ?_
       refine ol_r (r_move rfl) rfl ?_
       refine ol_r (r_assign rfl) rfl ?_
       refine ol_nil (to_k0 (fun _ _ h => h) (hK6 _ _ _ _ _ ?_))
       clear hK6
       refine wp_reg ?_
       refine ol_r (r_add rfl rfl (by omega)) rfl ?_
       refine ol_r (r_move rfl) rfl ?_
       refine ol_nil (to_k0 (fun _ _ h => h) (hK3 ((i + 1)) _ _ ?_ ?_ (sub_cons (by first | rfl | ((rw [ec hc42]; try rfl))) (sub_cons (by first | rfl | ((rw [ec hc42]; try rfl))) sub_nil)) (sub_cons rfl (sub_cons rfl (sub_cons rfl (sub_cons rfl (sub_cons rfl sub_nil))))) (by exact (subH_row rfl (by first | (dsimp only; rw [ec hc42]; done) | (rw [ec hc42]; done) | (dsimp only; done)) subH_nil)) (subH_same rfl (subH_same rfl (subH_same rfl (subH_same rfl (subH_same rfl subH_nil)))))))
       ·try dsimp only
        omega
       ·try dsimp only
        omega
     ·have phs28 := hs28; try simp only [decide_eq_true_eq, decide_eq_false_iff_not, Bool.not_eq_true', Bool.not_eq_false', Bool.not_true, Bool.not_false] at phs28
      refine ql_s rfl rfl hs28 rfl ?_
      refine ql_s rfl rfl hs28 rfl ?_
      refine ql_s rfl rfl hs28 rfl ?_
      refine ql_s rfl rfl hs28 rfl ?_
      refine ql_s rfl rfl hs28 rfl ?_
      refine ql_s rfl rfl hs28 rfl ?_
      refine ql_s rfl rfl hs28 rfl ?_
      refine ql_s rfl rfl hs28 rfl ?_
      refine ql_s rfl rfl hs28 rfl ?_
      refine ql_s rfl rfl hs28 rfl ?_
      refine ql_s rfl rfl hs28 rfl ?_
      refine ql_s rfl rfl hs28 rfl ?_
      refine ql_s rfl rfl hs28 rfl ?_
      refine ql_r (r_pickF rfl hs28 rfl) rfl ?_
      refine ql_nil (to_k0 (fun _ _ h => h) (hK11 _ _ _ _ _ ?_))
      clear hK11
      refine wp_condF rfl ?_
      refine wp_skip' (to_k0 (fun _ _ h => h) (hK10 _ _ _ _ _ ?_))
      clear hK10
      refine wp_reg ?_
      refine ol_r (r_move rfl) rfl ?_
      refine ol_r (r_assign rfl) rfl ?_
      refine ol_nil (to_k0 (fun _ _ h => h) (hK6 _ _ _ _ _ ?_))
      clear hK6
      refine wp_reg ?_
      refine ol_r (r_add rfl rfl (by omega)) rfl ?_
      refine ol_r (r_move rfl) rfl ?_
      refine ol_nil (to_k0 (fun _ _ h => h) (hK3 ((i + 1)) _ _ ?_ ?_ (sub_cons (by first | rfl | ((rw [eb hc25 phs28]; try rfl))) (sub_cons (by first | rfl | ((rw [eb hc25 phs28]; try rfl))) sub_nil)) (sub_cons rfl (sub_cons rfl (sub_cons rfl (sub_cons rfl (sub_cons rfl sub_nil))))) (by exact (subH_row rfl (by first | (dsimp only; rw [eb hc25 phs28]; done) | (rw [eb hc25 phs28]; done) | (dsimp only; done)) subH_nil)) (subH_same rfl (subH_same rfl (subH_same rfl (subH_same rfl (subH_same rfl subH_nil)))))))
      ·try dsimp only
       omega
      ·try dsimp only
       omega
   ·refine wp_exit' (hQ.fall rvs0 (fun _ _ h => h) fun w hb hs hB hkd => ?_)
    have hin : i = xs.length := by omega
    subst hin
    exact ⟨rfl, hb, hs.sub (subH_same rfl (subH_same rfl (subH_same rfl (subH_same rfl (subH_same rfl (subH_same rfl subH_nil)))))), hB, hkd⟩
theorem track_Fill (A : ActV) (gap : Int) (w : World) (hA : A.Ok w.heap.size w) :
    Calls Try.prog 36 #[.agg #[.string A.name, .int .i64 A.sport, .int .i64 A.start, .slice A.sa A.sn A.sc, .slice A.la A.ln A.lc, .slice A.ta A.tn A.tc], .int .i64 gap] w fun e w' => OutA w.heap.size w' (fillR A.d gap) e ∧ Below w.heap.size w w' := by
  have hsn := hA.s.len
  have hln := hA.l.len
  have htn := hA.t.len
  refine enterQ (N := 37) (C := fun _ => True) (H := []) (B := w.heap.size) (args := [_, _]) Try.func36 rfl rfl rfl (Nat.le_refl _) (Sat.nil _ _) fun Q hQ => ?_
  refine wp_seq' fun K1 hK1 => ?_
  refine wp_reg ?_
  refine ol_box 2 rfl rfl rfl fun b2 => ?_
  refine ol_alloc 4 z26 rfl fun b4 => ?_
  refine ol_r (r_assign rfl) rfl ?_
  refine ol_nil (to_k0 (fun _ _ h => h) (hK1 _ _ _ _ _ ?_))
  clear hK1
  refine wp_seq' fun K2 hK2 => ?_
  refine wp_seq' fun K3 hK3 => ?_
  refine wp_reg ?_
  refine ol_r (r_lda (id := 2) (n := 6) rfl rfl rfl ag26) rfl ?_
  refine ol_call rfl rfl cb40 rfl (fun w1 hb1 hs1 hB1 => Calls.mono (record_Check A _ (hA.at hb1 hB1)) ?_)
  rintro e w2 ⟨rfl, hb2⟩
  refine After.below rfl hb1 hs1 hB1 hb2 ?_
  clear hb2 hB1 hs1 hb1 w2 w1
  refine ol_r (r_assign rfl) rfl ?_
  refine ol_nil (to_k0 (fun _ _ h => h) (hK3 _ _ _ _ _ ?_))
  clear hK3
  refine wp_seq' fun K4 hK4 => ?_
  refine wp_reg ?_
  refine ol_r (r_move rfl) rfl ?_
  refine ol_r (r_neq rfl rfl) rfl ?_
  refine ol_nil (to_k0 (fun _ _ h => h) (hK4 _ _ _ _ _ ?_))
  clear hK4
  first | refine wp_condD rfl (fun hc12 => ?_) (fun hc12 => ?_) | refine wp_condN rfl (fun hc12 => ?_) (fun hc12 => ?_) | refine wp_condNB rfl (fun hc12 => ?_) (fun hc12 => ?_) | refine wp_cond' rfl (fun hc12 => ?_) (fun hc12 => ?_)
  ·refine wp_seq' fun K5 hK5 => ?_
   refine wp_reg ?_
   refine ol_r (r_build rfl (fun _ => bd26 _)) rfl ?_
   refine ol_r (r_move rfl) rfl ?_
   refine ol_store (id := 4) rfl rfl rfl rfl sz26 rfl rfl (by first | decide | exact Nat.zero_lt_succ _ | simp) ?_
   refine ol_r (r_assign rfl) rfl ?_
   refine ol_nil (to_k0 (fun _ _ h => h) (hK5 _ _ _ _ _ ?_))
   clear hK5
   refine hQ.ret (rvs2 (rv_c (id := 4) (n := 6) rfl rfl ag26 rfl) (rv_t rfl)) (fun _ _ h => h) fun w hb hs hB hkd => ?_
   exact ⟨outA_no (fillR_e hc12), hb⟩
  ·refine wp_skip' (to_k0 (fun _ _ h => h) (hK2 _ _ _ _ _ ?_))
   clear hK2
   refine wp_seq' fun K6 hK6 => ?_
   refine wp_seq' fun K7 hK7 => ?_
   refine wp_reg ?_
   refine ol_r (r_move rfl) rfl ?_
   refine ol_call rfl rfl cb41 rfl (fun w1 hb1 hs1 hB1 => Calls.mono (track_in _ _ _ _) ?_)
   rintro e w2 ⟨rfl, hb2⟩
   refine After.below rfl hb1 hs1 hB1 hb2 ?_
   clear hb2 hB1 hs1 hb1 w2 w1
   refine ol_r (r_not rfl) rfl ?_
   refine ol_nil (to_k0 (fun _ _ h => h) (hK7 _ _ _ _ _ ?_))
   clear hK7
   first | refine wp_condD rfl (fun hc17 => ?_) (fun hc17 => ?_) | refine wp_condN rfl (fun hc17 => ?_) (fun hc17 => ?_) | refine wp_condNB rfl (fun hc17 => ?_) (fun hc17 => ?_) | refine wp_cond' rfl (fun hc17 => ?_) (fun hc17 => ?_)
   ·refine wp_seq' fun K8 hK8 => ?_
    refine wp_reg ?_
    refine ol_r (r_build rfl (fun _ => bd26 _)) rfl ?_
    refine ol_store (id := 4) rfl rfl rfl rfl sz26 rfl rfl (by first | decide | exact Nat.zero_lt_succ _ | simp) ?_
    refine ol_r (r_assign rfl) rfl ?_
    refine ol_nil (to_k0 (fun _ _ h => h) (hK8 _ _ _ _ _ ?_))
    clear hK8
    refine hQ.ret (rvs2 (rv_c (id := 4) (n := 6) rfl rfl ag26 rfl) (rv_t rfl)) (fun _ _ h => h) fun w hb hs hB hkd => ?_
    exact ⟨outA_no (fillR_9 hc12 (by have h := inB_not.1 (by simpa using hc17); omega)), hb⟩
   ·refine wp_skip' (to_k0 (fun _ _ h => h) (hK6 _ _ _ _ _ ?_))
    clear hK6
    refine wp_seq' fun K9 hK9 => ?_
    refine wp_reg ?_
    have h0 : chkA A.d = 0 := Decidable.not_not.1 hc12
    have hw : ¬(gap < 0 ∨ 1000000 < gap) := by have h := inB_iff.1 (by simpa using hc17); omega
    have hg := goodA h0
    have hl20 : A.ss.length ≤ 20000 := (show SmpOk A.start A.ss from hg.smp).len
    obtain ⟨g4, g5, g6⟩ := hg.head.2.2.2
    dsimp only [ActV.d] at g4 g5 g6
    refine ol_r (r_lda (id := 2) (n := 6) rfl rfl rfl ag26) rfl ?_
    refine ol_call rfl rfl cb48 rfl (fun w1 hb1 hs1 hB1 => ?_)
    refine Calls.mono (record_Clone A _ (hA.at hb1 hB1) (by omega) (by omega) (by omega)) ?_
    rintro e w2 ⟨sa, sn, sc, la, ln, lc, ta, tn, tc, rfl, hb2, hs2⟩
    have q1 := (Sat.rd hs2 (E := encSmp) (id := 1001) rfl rfl).len
    refine After.more rfl hb1 hs1 hB1 hb2 hs2 ?_
    clear hs2 hb2 hB1 hs1 hb1 w2 w1
    refine ol_alloc 7 z26 rfl fun b7 => ?_
    refine ol_store (id := 7) rfl rfl rfl rfl sz26 rfl rfl (by first | decide | exact Nat.zero_lt_succ _ | simp) ?_
    refine ol_nil (to_k0 (fun _ _ h => h) (hK9 _ _ _ _ _ ?_))
    clear hK9
    refine wp_seq' fun K10 hK10 => ?_
    refine wp_reg ?_
    refine ol_r (r_assign rfl) rfl ?_
    refine ol_nil (to_k0 (fun _ _ h => h) (hK10 _ _ _ _ _ ?_))
    clear hK10
    refine wp_seq' fun K11 hK11 => ?_
    refine wp_reg ?_
    refine ol_r (r_fa (o' := 3) rfl fl26_3 rfl) rfl ?_
    refine ol_r (r_ld (id := 7) rfl rfl rfl sc22) rfl ?_
    refine ol_r (r_move rfl) rfl ?_
    refine ol_r (r_move rfl) rfl ?_
    refine ol_call rfl rfl cb82 rfl (fun w1 hb1 hs1 hB1 => ?_)
    refine Calls.mono (track_fill0 _ sa sn sc (fillW gap A.ss 0) gap _ _ _ _ _ _ (by first | exact q1 | (rw [fillW_len]; exact q1)) hB1 (fillW_ok hg.smp (by omega)) (hs1.kle [(1001, 900), (2, 901), (4, 902), (7, 903), (1002, 904), (1003, 905)] (kle_cons rfl (Ent.le_refl _) (kle_cons rfl (Ent.le_refl _) (kle_cons rfl (Ent.le_refl _) (kle_cons rfl (Ent.le_refl _) (kle_cons rfl (Ent.le_refl _) (kle_cons rfl (Ent.le_refl _) kle_nil)))))) (by decide))) ?_
    rintro e w2 ⟨rfl, hb2, hs2, hB2, hk2⟩
    refine After.sat rfl hb1 hb2 (hs2.kle [(900, 1001), (901, 2), (902, 4), (903, 7), (904, 1002), (905, 1003)] (kle_cons rfl (Ent.le_refl _) (kle_cons rfl (Ent.le_refl _) (kle_cons rfl (Ent.le_refl _) (kle_cons rfl (Ent.le_refl _) (kle_cons rfl (Ent.le_refl _) (kle_cons rfl (Ent.le_refl _) kle_nil)))))) (by decide)) hB2 (hk2.imp fun _ h => h.elim) ?_
    clear hk2 hs2 hb2 hB2 hB1 hs1 hb1 w2 w1
    refine ol_nil (to_k0 (fun _ _ h => h) (hK11 _ _ _ _ _ ?_))
    clear hK11
    refine wp_seq' fun K12 hK12 => ?_
    refine wp_reg ?_
    refine ol_r (r_fa (o' := 3) rfl fl26_3 rfl) rfl ?_
    refine ol_r (r_ld (id := 7) rfl rfl rfl sc22) rfl ?_
    refine ol_r (r_move rfl) rfl ?_
    refine ol_r (r_move rfl) rfl ?_
    refine ol_call rfl rfl cb82 rfl (fun w1 hb1 hs1 hB1 => ?_)
    refine Calls.mono (track_fill1 _ sa sn sc (fillW gap A.ss 1) gap _ _ _ _ _ _ (by first | exact q1 | (rw [fillW_len]; exact q1)) hB1 (fillW_ok hg.smp (by omega)) (hs1.kle [(1001, 900), (2, 901), (4, 902), (7, 903), (1002, 904), (1003, 905)] (kle_cons rfl (Ent.le_refl _) (kle_cons rfl (Ent.le_refl _) (kle_cons rfl (Ent.le_refl _) (kle_cons rfl (Ent.le_refl _) (kle_cons rfl (Ent.le_refl _) (kle_cons rfl (Ent.le_refl _) kle_nil)))))) (by decide))) ?_
    rintro e w2 ⟨rfl, hb2, hs2, hB2, hk2⟩
    refine After.sat rfl hb1 hb2 (hs2.kle [(900, 1001), (901, 2), (902, 4), (903, 7), (904, 1002), (905, 1003)] (kle_cons rfl (Ent.le_refl _) (kle_cons rfl (Ent.le_refl _) (kle_cons rfl (Ent.le_refl _) (kle_cons rfl (Ent.le_refl _) (kle_cons rfl (Ent.le_refl _) (kle_cons rfl (Ent.le_refl _) kle_nil)))))) (by decide)) hB2 (hk2.imp fun _ h => h.elim) ?_
    clear hk2 hs2 hb2 hB2 hB1 hs1 hb1 w2 w1
    refine ol_nil (to_k0 (fun _ _ h => h) (hK12 _ _ _ _ _ ?_))
    clear hK12
    refine wp_seq' fun K13 hK13 => ?_
    refine wp_reg ?_
    refine ol_r (r_fa (o' := 3) rfl fl26_3 rfl) rfl ?_
    refine ol_r (r_ld (id := 7) rfl rfl rfl sc22) rfl ?_
    refine ol_r (r_move rfl) rfl ?_
    refine ol_r (r_move rfl) rfl ?_
    refine ol_call rfl rfl cb82 rfl (fun w1 hb1 hs1 hB1 => ?_)
    refine Calls.mono (track_fill2 _ sa sn sc (fillW gap A.ss 2) gap _ _ _ _ _ _ (by first | exact q1 | (rw [fillW_len]; exact q1)) hB1 (fillW_ok hg.smp (by omega)) (hs1.kle [(1001, 900), (2, 901), (4, 902), (7, 903), (1002, 904), (1003, 905)] (kle_cons rfl (Ent.le_refl _) (kle_cons rfl (Ent.le_refl _) (kle_cons rfl (Ent.le_refl _) (kle_cons rfl (Ent.le_refl _) (kle_cons rfl (Ent.le_refl _) (kle_cons rfl (Ent.le_refl _) kle_nil)))))) (by decide))) ?_
    rintro e w2 ⟨rfl, hb2, hs2, hB2, hk2⟩
    refine After.sat rfl hb1 hb2 (hs2.kle [(900, 1001), (901, 2), (902, 4), (903, 7), (904, 1002), (905, 1003)] (kle_cons rfl (Ent.le_refl _) (kle_cons rfl (Ent.le_refl _) (kle_cons rfl (Ent.le_refl _) (kle_cons rfl (Ent.le_refl _) (kle_cons rfl (Ent.le_refl _) (kle_cons rfl (Ent.le_refl _) kle_nil)))))) (by decide)) hB2 (hk2.imp fun _ h => h.elim) ?_
    clear hk2 hs2 hb2 hB2 hB1 hs1 hb1 w2 w1
    refine ol_nil (to_k0 (fun _ _ h => h) (hK13 _ _ _ _ _ ?_))
    clear hK13
    refine wp_seq' fun K14 hK14 => ?_
    refine wp_reg ?_
    refine ol_r (r_lda (id := 7) (n := 6) rfl rfl rfl ag26) rfl ?_
    refine ol_store (id := 4) rfl rfl rfl rfl sz26 rfl rfl (by first | decide | exact Nat.zero_lt_succ _ | simp) ?_
    refine ol_r (r_assign rfl) rfl ?_
    refine ol_nil (to_k0 (fun _ _ h => h) (hK14 _ _ _ _ _ ?_))
    clear hK14
    refine hQ.ret (rvs2 (rv_c (id := 4) (n := 6) rfl rfl ag26 rfl) (rv_t rfl)) (fun _ _ h => h) fun w hb hs hB hkd => ?_
    refine ⟨?_, hb⟩
    rw [fillR_0 hc12 hw]
    exact ⟨sa, sn, sc, la, ln, lc, ta, tn, tc, rfl, hs.three 1001 1002 1003 1001 1002 1003 (by decide) (by decide) (by decide) rfl rfl rfl (Ent.le_refl _) (Ent.le_refl _) (Ent.le_refl _)⟩
end Go.Proofs.Ytogcclagmobkiaa
