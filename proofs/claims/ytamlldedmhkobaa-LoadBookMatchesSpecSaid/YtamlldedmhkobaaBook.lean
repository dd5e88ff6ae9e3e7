/-
  A book of loads: the program.
-/
import Derived.Test.YtamlldedmhkobaaBookM
import Derived.Test.YtamlldedmhkobaaLoadFit
import Derived.Test.YtamlldedmhkobaaLoad2
import Derived.Test.YtamlldedmhkobaaHm
import Derived.Test.YtamlldedmhkobaaHg
namespace Go.Proofs.Ytamlldedmhkobaa
open Go Go.RowKit Hx
set_option linter.unusedVariables false
set_option linter.unusedSimpArgs false
set_option maxRecDepth 8000
theorem mt92 : MapT Try.prog 92 (Value.int .i64) (Value.int .i64) (0 : Int) :=
  ⟨⟨3, 3, .int .i64, by kernel_rfl, by kernel_rfl, fun _ => rfl, fun w => by first | rfl | kernel_rfl⟩, fun a b h => by injection h⟩
def encState : Enc StR := { size := 5, cells := fun x => [.int .i64 x.day, .int .i64 x.load, .int .i64 x.fit, .int .i64 x.fat, .int .i64 x.form], val := fun x => .agg #[.int .i64 x.day, .int .i64 x.load, .int .i64 x.fit, .int .i64 x.fat, .int .i64 x.form], len := fun _ => rfl, ones := fun _ u h => (by simp at h; rcases h with h | h | h | h | h <;> subst h <;> rfl), pos := by decide, vc := fun _ => rfl }
def mk_encState (a b c d e : Int) : StR := ⟨a, b, c, d, e⟩
theorem ty61 : Ty Try.prog 61 encState := .inr ⟨ag61, fun _ => rfl⟩
def addD (D : List (Int × Int)) (first d n : Int) : List (Int × Int) := if addC (mG (0 : Int) D) first d n = 0 then mS D d (mG (0 : Int) D d + n) else D
def takeD (D : List (Int × Int)) (first d n : Int) : List (Int × Int) := if takeC (mG (0 : Int) D) first d n = 0 then mS D d (mG (0 : Int) D d - n) else D
theorem bkOk_add {D : List (Int × Int)} {first fit fat d n : Int} (h : BkOk (mG (0 : Int) D) first fit fat) : BkOk (mG (0 : Int) (addD D first d n)) first fit fat := by
  refine ⟨h.first, h.fit, h.fat, fun k => ?_⟩
  unfold addD
  by_cases hc : addC (mG (0 : Int) D) first d n = 0
  · rw [if_pos hc, mG_mS]
    have h1 := h.load d
    have h2 := h.load k
    unfold addC at hc
    split at hc
    · cases hc
    · rename_i h3
      have h4 : inB n 0 10000 = true := by simp_all
      have h5 := inB_iff.1 h4
      split at hc
      · cases hc
      · split <;> omega
  · rw [if_neg hc]; exact h.load k
theorem bkOk_take {D : List (Int × Int)} {first fit fat d n : Int} (h : BkOk (mG (0 : Int) D) first fit fat) : BkOk (mG (0 : Int) (takeD D first d n)) first fit fat := by
  refine ⟨h.first, h.fit, h.fat, fun k => ?_⟩
  unfold takeD
  by_cases hc : takeC (mG (0 : Int) D) first d n = 0
  · rw [if_pos hc, mG_mS]
    have h1 := h.load d
    have h2 := h.load k
    unfold takeC at hc
    split at hc
    · cases hc
    · rename_i h3
      have h4 : inB n 0 10000 = true := by simp_all
      have h5 := inB_iff.1 h4
      split at hc
      · cases hc
      · split <;> omega
  · rw [if_neg hc]; exact h.load k
def OutS (B : Nat) (w' : World) (r : List StR × Int) (e : Ending) : Prop :=
  ∃ a c, e = .returned (.tuple #[.slice a r.1.length c, .int .i64 r.2]) ∧ Sat B w' [(1001, .row a r.1.length c (encState.enc r.1) 61 5)]
theorem outS_no {B : Nat} {w' : World} {r : List StR × Int} {er : Int} (h : r = ([], er)) : OutS B w' r (.returned (.tuple #[.slice none 0 0, .int .i64 er])) := by
  subst h
  exact ⟨none, 0, rfl, (Sat.nil _ _).nilRow 1001 _ _⟩
theorem bet_row {g : Int → Int} {first fit fat from_ : Int} {k : Nat} (h : from_ ≤ first + k) : encState.enc (betL g first fit fat from_ (k + 1)) = encState.enc (betL g first fit fat from_ k) ++ encState.cells (stN g first fit fat k) := by
  rw [betL_put h, Enc.enc_append]; simp [Enc.enc]
theorem ratV_pos {num den : Int} (h : 0 < den) : 0 < den.tdiv (gcdI num den) := by
  have hg := gcd_pos (num := num) h
  have hd : (gcdI num den) ∣ den.toNat := Nat.gcd_dvd_right _ _
  have hle := Nat.le_of_dvd (by omega) hd
  rw [Int.tdiv_eq_ediv_of_nonneg (by omega)]
  exact Int.ediv_pos_of_pos_of_dvd h (by omega) (by
    obtain ⟨k, hk⟩ := hd
    have h3 : den = ((den.toNat : Nat) : Int) := by omega
    have h4 : ((den.toNat : Nat) : Int) = ((gcdI num den * k : Nat) : Int) := congrArg _ hk
    rw [Int.natCast_mul] at h4
    exact ⟨k, h3.trans h4⟩)
theorem load_has (b m : Nat) (first fit fat d : Int) (w : World) (hk : Blk w.heap.size w b [(0, .int .i64 first), (1, .int .i64 fit), (2, .int .i64 fat), (3, .map (some m))]) (hf : 0 ≤ first ∧ first ≤ 999999) :
    Calls Try.prog 79 #[.pointer (some ⟨b, 0, none⟩), .int .i64 d] w fun e w' => e = .returned (.bool (dayB first d)) ∧ Below w.heap.size w w' := by
  refine enterQ (N := 18) (C := fun _ => True) (H := []) (B := w.heap.size) (args := [_, _]) Try.func79 rfl rfl rfl (Nat.le_refl _) (Sat.nil _ _) fun Q hQ => ?_
  refine wp_seq' fun K1 hK1 => ?_
  refine wp_reg ?_
  refine ol_r (r_assign rfl) rfl ?_
  refine ol_nil (to_k0 (fun _ _ h => h) (hK1 _ _ _ _ _ ?_))
  clear hK1
  refine wp_seq' fun K2 hK2 => ?_
  refine wp_regq (by kernel_rfl) (by kernel_rfl) ?_
  refine ql_r (r_move rfl) rfl ?_
  refine ql_r (r_move rfl) rfl ?_
  refine ql_r (r_nilS rfl (rfl)) rfl ?_
  refine ql_r (r_fa (o' := 0) rfl fl94_0 rfl) rfl ?_
  refine ql_r (r_ldw rfl (fun w1 hb1 hs1 hB1 => Blk.loads (o := 0) hk hb1 sc3 rfl)) rfl ?_
  refine ql_r (r_move rfl) rfl ?_
  refine ql_r (r_nilS rfl (rfl)) rfl ?_
  refine ql_r (r_fa (o' := 0) rfl fl94_0 rfl) rfl ?_
  refine ql_r (r_ldw rfl (fun w1 hb1 hs1 hB1 => Blk.loads (o := 0) hk hb1 sc3 rfl)) rfl ?_
  refine ql_r (r_add rfl rfl (by omega)) rfl ?_
  refine ql_r (r_sub rfl rfl (by omega)) rfl ?_
  refine ql_r (r_min rfl rfl) rfl ?_
  refine ql_call rfl rfl cb67 rfl (fun w1 hb1 hs1 hB1 => load_in _ _ _ _) ?_
  refine ql_r (r_assign rfl) rfl ?_
  refine ql_nil (to_k0 (fun _ _ h => h) (hK2 _ _ _ _ _ ?_))
  clear hK2
  refine hQ.ret (rvs1 (rv_t rfl)) (fun _ _ h => h) fun w hb hs hB hkd => ?_
  exact ⟨rfl, hb⟩
theorem load_Add (B b m : Nat) (first fit fat d n : Int) (D : List (Int × Int)) (e1 e2 e3 : Ent) (w : World) (hB : B ≤ w.heap.size) (hok : BkOk (mG (0 : Int) D) first fit fat)
    (hs : Sat B w [(810, .blk b [(0, .int .i64 first), (1, .int .i64 fit), (2, .int .i64 fat), (3, .map (some m))] 94), (811, .mp m (mEnc (Value.int .i64) (Value.int .i64) D)), (901, e1), (902, e2), (903, e3)]) :
    Calls Try.prog 38 #[.pointer (some ⟨b, 0, none⟩), .int .i64 d, .int .i64 n] w fun e w' => e = .returned (.int .i64 (addC (mG (0 : Int) D) first d n)) ∧ Below B w w' ∧ Sat B w' [(810, .blk b [(0, .int .i64 first), (1, .int .i64 fit), (2, .int .i64 fat), (3, .map (some m))] 94), (811, .mp m (mEnc (Value.int .i64) (Value.int .i64) (addD D first d n))), (901, e1), (902, e2), (903, e3)] ∧ B ≤ w'.heap.size ∧ Kd (fun _ => True) w w' := by
  have hg := hok.load d
  have hf := hok.first
  refine enterQ (N := 35) (C := fun _ => True) (H := [(810, .blk b [(0, .int .i64 first), (1, .int .i64 fit), (2, .int .i64 fat), (3, .map (some m))] 94), (811, .mp m (mEnc (Value.int .i64) (Value.int .i64) D)), (901, e1), (902, e2), (903, e3)]) (B := B) (args := [_, _, _]) Try.func38 rfl rfl rfl (hB) (hs) fun Q hQ => ?_
  refine wp_seq' fun K1 hK1 => ?_
  refine wp_reg ?_
  refine ol_r (r_assign rfl) rfl ?_
  refine ol_nil (to_k0 (fun _ _ h => h) (hK1 _ _ _ _ _ ?_))
  clear hK1
  refine wp_seq' fun K2 hK2 => ?_
  refine wp_block' ?_
  refine wp_seq' fun K3 hK3 => ?_
  refine wp_reg ?_
  refine ol_r (r_move rfl) rfl ?_
  refine ol_r (r_move rfl) rfl ?_
  refine ol_call rfl rfl cb79 rfl (fun w1 hb1 hs1 hB1 => Calls.mono (load_has b m first fit fat d _ (hs1.blk (id := 810) rfl) hf) ?_)
  rintro e w2 ⟨rfl, hb2⟩
  refine After.below rfl hb1 hs1 hB1 hb2 ?_
  clear hb2 hB1 hs1 hb1 w2 w1
  refine ol_r (r_not rfl) rfl ?_
  refine ol_r (r_move rfl) rfl ?_
  refine ol_split (d := 12) rfl (fun hs12 => ?_) (fun hs12 => ?_)
  ·have phs12 := hs12; try simp only [decide_eq_true_eq, decide_eq_false_iff_not, Bool.not_eq_true', Bool.not_eq_false', Bool.not_true, Bool.not_false] at phs12
   refine ol_s rfl rfl hs12 rfl ?_
   refine ol_s rfl rfl hs12 rfl ?_
   refine ol_s rfl rfl hs12 rfl ?_
   refine ol_r (r_pickT rfl hs12 rfl) rfl ?_
   refine ol_r (r_assign rfl) rfl ?_
   refine ol_nil (to_k0 (fun _ _ h => h) (hK3 _ _ _ _ _ ?_))
   clear hK3
   refine wp_condT rfl ?_
   refine wp_seq' fun K4 hK4 => ?_
   refine wp_reg ?_
   refine ol_r (r_assign rfl) rfl ?_
   refine ol_nil (to_k0 (fun _ _ h => h) (hK4 _ _ _ _ _ ?_))
   clear hK4
   refine hQ.ret (rvs1 (rv_t rfl)) (fun _ _ h => h) fun w hb hs hB hkd => ?_
   have hc := addC_9 (g := (mG (0 : Int) D)) (first := first) (d := d) (n := n) (by simp_all)
   refine ⟨by rw [hc], hb, ?_, hB, hkd⟩
   unfold addD
   rw [hc]
   exact hs.sub (subH_same rfl (subH_same rfl (subH_same rfl (subH_same rfl (subH_same rfl subH_nil)))))
  ·have phs12 := hs12; try simp only [decide_eq_true_eq, decide_eq_false_iff_not, Bool.not_eq_true', Bool.not_eq_false', Bool.not_true, Bool.not_false] at phs12
   refine ol_g rfl rfl hs12 ?_
   refine ol_r (r_move rfl) rfl ?_
   refine ol_g rfl rfl hs12 ?_
   refine ol_call rfl rfl cb67 rfl (fun w1 hb1 hs1 hB1 => Calls.mono (load_in _ _ _ _) ?_)
   rintro e w2 ⟨rfl, hb2⟩
   refine After.below rfl hb1 hs1 hB1 hb2 ?_
   clear hb2 hB1 hs1 hb1 w2 w1
   refine ol_g rfl rfl hs12 ?_
   refine ol_r (r_not rfl) rfl ?_
   refine ol_r (r_pickF rfl hs12 rfl) rfl ?_
   refine ol_r (r_assign rfl) rfl ?_
   refine ol_nil (to_k0 (fun _ _ h => h) (hK3 _ _ _ _ _ ?_))
   clear hK3
   first | refine wp_condD rfl (fun hc7 => ?_) (fun hc7 => ?_) | refine wp_condN rfl (fun hc7 => ?_) (fun hc7 => ?_) | refine wp_condNB rfl (fun hc7 => ?_) (fun hc7 => ?_) | refine wp_cond' rfl (fun hc7 => ?_) (fun hc7 => ?_)
   ·refine wp_seq' fun K5 hK5 => ?_
    refine wp_reg ?_
    refine ol_r (r_assign rfl) rfl ?_
    refine ol_nil (to_k0 (fun _ _ h => h) (hK5 _ _ _ _ _ ?_))
    clear hK5
    refine hQ.ret (rvs1 (rv_t rfl)) (fun _ _ h => h) fun w hb hs hB hkd => ?_
    have hc := addC_9 (g := (mG (0 : Int) D)) (first := first) (d := d) (n := n) (by simp_all)
    refine ⟨by rw [hc], hb, ?_, hB, hkd⟩
    unfold addD
    rw [hc]
    exact hs.sub (subH_same rfl (subH_same rfl (subH_same rfl (subH_same rfl (subH_same rfl subH_nil)))))
   ·refine wp_seq' fun K6 hK6 => ?_
    refine wp_reg ?_
    refine ol_r (r_move rfl) rfl ?_
    refine ol_r (r_nilS rfl (rfl)) rfl ?_
    refine ol_r (r_fa (o' := 3) rfl fl94_3 rfl) rfl ?_
    refine ol_r (r_ld (id := 810) rfl rfl rfl sc92) rfl ?_
    refine ol_r (r_move rfl) rfl ?_
    refine ol_r (r_lookup (K := Value.int .i64) (V := Value.int .i64) (z := (0 : Int)) (id := 811) rfl rfl rfl mt92) rfl ?_
    refine ol_r (r_move rfl) rfl ?_
    have hn : 0 ≤ n ∧ n ≤ 10000 := inB_iff.1 (by simp_all)
    refine ol_r (r_add rfl rfl (by omega)) rfl ?_
    refine ol_r (r_gtr rfl rfl) rfl ?_
    refine ol_r (r_assign rfl) rfl ?_
    refine ol_nil (to_k0 (fun _ _ h => h) (hK6 _ _ _ _ _ ?_))
    clear hK6
    first | refine wp_condD rfl (fun hc17 => ?_) (fun hc17 => ?_) | refine wp_condN rfl (fun hc17 => ?_) (fun hc17 => ?_) | refine wp_condNB rfl (fun hc17 => ?_) (fun hc17 => ?_) | refine wp_cond' rfl (fun hc17 => ?_) (fun hc17 => ?_)
    ·refine wp_seq' fun K7 hK7 => ?_
     refine wp_reg ?_
     refine ol_r (r_assign rfl) rfl ?_
     refine ol_nil (to_k0 (fun _ _ h => h) (hK7 _ _ _ _ _ ?_))
     clear hK7
     refine hQ.ret (rvs1 (rv_t rfl)) (fun _ _ h => h) fun w hb hs hB hkd => ?_
     have hc := addC_3 (g := (mG (0 : Int) D)) (first := first) (d := d) (n := n) (by simp_all) (by simp_all) (by omega)
     refine ⟨by rw [hc], hb, ?_, hB, hkd⟩
     unfold addD
     rw [hc]
     exact hs.sub (subH_same rfl (subH_same rfl (subH_same rfl (subH_same rfl (subH_same rfl subH_nil)))))
    ·refine wp_skip' (to_k0 (fun _ _ h => h) (hK2 _ _ _ _ _ ?_))
     clear hK2
     refine wp_seq' fun K8 hK8 => ?_
     refine wp_reg ?_
     refine ol_r (r_move rfl) rfl ?_
     refine ol_r (r_nilS rfl (rfl)) rfl ?_
     refine ol_r (r_fa (o' := 3) rfl fl94_3 rfl) rfl ?_
     refine ol_r (r_ld (id := 810) rfl rfl rfl sc92) rfl ?_
     refine ol_r (r_move rfl) rfl ?_
     refine ol_r (r_lookup (K := Value.int .i64) (V := Value.int .i64) (z := (0 : Int)) (id := 811) rfl rfl rfl mt92) rfl ?_
     refine ol_r (r_move rfl) rfl ?_
     refine ol_r (r_add rfl rfl (by omega)) rfl ?_
     refine ol_mapup (K := Value.int .i64) (V := Value.int .i64) (z := (0 : Int)) (id := 811) rfl rfl rfl rfl mt92 trivial ?_
     refine ol_nil (to_k0 (fun _ _ h => h) (hK8 _ _ _ _ _ ?_))
     clear hK8
     refine wp_seq' fun K9 hK9 => ?_
     refine wp_reg ?_
     refine ol_r (r_assign rfl) rfl ?_
     refine ol_nil (to_k0 (fun _ _ h => h) (hK9 _ _ _ _ _ ?_))
     clear hK9
     refine hQ.ret (rvs1 (rv_t rfl)) (fun _ _ h => h) fun w hb hs hB hkd => ?_
     have hc := addC_0 (g := (mG (0 : Int) D)) (first := first) (d := d) (n := n) (by simp_all) (by simp_all) (by omega)
     refine ⟨by rw [hc], hb, ?_, hB, hkd⟩
     unfold addD
     rw [hc]
     exact hs.sub (subH_same rfl (subH_same rfl (subH_same rfl (subH_same rfl (subH_same rfl subH_nil)))))
theorem load_Take (B b m : Nat) (first fit fat d n : Int) (D : List (Int × Int)) (e1 e2 e3 : Ent) (w : World) (hB : B ≤ w.heap.size) (hok : BkOk (mG (0 : Int) D) first fit fat)
    (hs : Sat B w [(810, .blk b [(0, .int .i64 first), (1, .int .i64 fit), (2, .int .i64 fat), (3, .map (some m))] 94), (811, .mp m (mEnc (Value.int .i64) (Value.int .i64) D)), (901, e1), (902, e2), (903, e3)]) :
    Calls Try.prog 40 #[.pointer (some ⟨b, 0, none⟩), .int .i64 d, .int .i64 n] w fun e w' => e = .returned (.int .i64 (takeC (mG (0 : Int) D) first d n)) ∧ Below B w w' ∧ Sat B w' [(810, .blk b [(0, .int .i64 first), (1, .int .i64 fit), (2, .int .i64 fat), (3, .map (some m))] 94), (811, .mp m (mEnc (Value.int .i64) (Value.int .i64) (takeD D first d n))), (901, e1), (902, e2), (903, e3)] ∧ B ≤ w'.heap.size ∧ Kd (fun _ => True) w w' := by
  have hg := hok.load d
  have hf := hok.first
  refine enterQ (N := 34) (C := fun _ => True) (H := [(810, .blk b [(0, .int .i64 first), (1, .int .i64 fit), (2, .int .i64 fat), (3, .map (some m))] 94), (811, .mp m (mEnc (Value.int .i64) (Value.int .i64) D)), (901, e1), (902, e2), (903, e3)]) (B := B) (args := [_, _, _]) Try.func40 rfl rfl rfl (hB) (hs) fun Q hQ => ?_
  refine wp_seq' fun K1 hK1 => ?_
  refine wp_reg ?_
  refine ol_r (r_assign rfl) rfl ?_
  refine ol_nil (to_k0 (fun _ _ h => h) (hK1 _ _ _ _ _ ?_))
  clear hK1
  refine wp_seq' fun K2 hK2 => ?_
  refine wp_block' ?_
  refine wp_seq' fun K3 hK3 => ?_
  refine wp_reg ?_
  refine ol_r (r_move rfl) rfl ?_
  refine ol_r (r_move rfl) rfl ?_
  refine ol_call rfl rfl cb79 rfl (fun w1 hb1 hs1 hB1 => Calls.mono (load_has b m first fit fat d _ (hs1.blk (id := 810) rfl) hf) ?_)
  rintro e w2 ⟨rfl, hb2⟩
  refine After.below rfl hb1 hs1 hB1 hb2 ?_
  clear hb2 hB1 hs1 hb1 w2 w1
  refine ol_r (r_not rfl) rfl ?_
  refine ol_r (r_move rfl) rfl ?_
  refine ol_split (d := 12) rfl (fun hs12 => ?_) (fun hs12 => ?_)
  ·have phs12 := hs12; try simp only [decide_eq_true_eq, decide_eq_false_iff_not, Bool.not_eq_true', Bool.not_eq_false', Bool.not_true, Bool.not_false] at phs12
   refine ol_s rfl rfl hs12 rfl ?_
   refine ol_s rfl rfl hs12 rfl ?_
   refine ol_s rfl rfl hs12 rfl ?_
   refine ol_r (r_pickT rfl hs12 rfl) rfl ?_
   refine ol_r (r_assign rfl) rfl ?_
   refine ol_nil (to_k0 (fun _ _ h => h) (hK3 _ _ _ _ _ ?_))
   clear hK3
   refine wp_condT rfl ?_
   refine wp_seq' fun K4 hK4 => ?_
   refine wp_reg ?_
   refine ol_r (r_assign rfl) rfl ?_
   refine ol_nil (to_k0 (fun _ _ h => h) (hK4 _ _ _ _ _ ?_))
   clear hK4
   refine hQ.ret (rvs1 (rv_t rfl)) (fun _ _ h => h) fun w hb hs hB hkd => ?_
   have hc := takeC_9 (g := (mG (0 : Int) D)) (first := first) (d := d) (n := n) (by simp_all)
   refine ⟨by rw [hc], hb, ?_, hB, hkd⟩
   unfold takeD
   rw [hc]
   exact hs.sub (subH_same rfl (subH_same rfl (subH_same rfl (subH_same rfl (subH_same rfl subH_nil)))))
  ·have phs12 := hs12; try simp only [decide_eq_true_eq, decide_eq_false_iff_not, Bool.not_eq_true', Bool.not_eq_false', Bool.not_true, Bool.not_false] at phs12
   refine ol_g rfl rfl hs12 ?_
   refine ol_r (r_move rfl) rfl ?_
   refine ol_g rfl rfl hs12 ?_
   refine ol_call rfl rfl cb67 rfl (fun w1 hb1 hs1 hB1 => Calls.mono (load_in _ _ _ _) ?_)
   rintro e w2 ⟨rfl, hb2⟩
   refine After.below rfl hb1 hs1 hB1 hb2 ?_
   clear hb2 hB1 hs1 hb1 w2 w1
   refine ol_g rfl rfl hs12 ?_
   refine ol_r (r_not rfl) rfl ?_
   refine ol_r (r_pickF rfl hs12 rfl) rfl ?_
   refine ol_r (r_assign rfl) rfl ?_
   refine ol_nil (to_k0 (fun _ _ h => h) (hK3 _ _ _ _ _ ?_))
   clear hK3
   first | refine wp_condD rfl (fun hc7 => ?_) (fun hc7 => ?_) | refine wp_condN rfl (fun hc7 => ?_) (fun hc7 => ?_) | refine wp_condNB rfl (fun hc7 => ?_) (fun hc7 => ?_) | refine wp_cond' rfl (fun hc7 => ?_) (fun hc7 => ?_)
   ·refine wp_seq' fun K5 hK5 => ?_
    refine wp_reg ?_
    refine ol_r (r_assign rfl) rfl ?_
    refine ol_nil (to_k0 (fun _ _ h => h) (hK5 _ _ _ _ _ ?_))
    clear hK5
    refine hQ.ret (rvs1 (rv_t rfl)) (fun _ _ h => h) fun w hb hs hB hkd => ?_
    have hc := takeC_9 (g := (mG (0 : Int) D)) (first := first) (d := d) (n := n) (by simp_all)
    refine ⟨by rw [hc], hb, ?_, hB, hkd⟩
    unfold takeD
    rw [hc]
    exact hs.sub (subH_same rfl (subH_same rfl (subH_same rfl (subH_same rfl (subH_same rfl subH_nil)))))
   ·refine wp_seq' fun K6 hK6 => ?_
    refine wp_reg ?_
    refine ol_r (r_move rfl) rfl ?_
    refine ol_r (r_nilS rfl (rfl)) rfl ?_
    refine ol_r (r_fa (o' := 3) rfl fl94_3 rfl) rfl ?_
    refine ol_r (r_ld (id := 810) rfl rfl rfl sc92) rfl ?_
    refine ol_r (r_move rfl) rfl ?_
    refine ol_r (r_lookup (K := Value.int .i64) (V := Value.int .i64) (z := (0 : Int)) (id := 811) rfl rfl rfl mt92) rfl ?_
    refine ol_r (r_move rfl) rfl ?_
    refine ol_r (r_lss rfl rfl) rfl ?_
    refine ol_r (r_assign rfl) rfl ?_
    refine ol_nil (to_k0 (fun _ _ h => h) (hK6 _ _ _ _ _ ?_))
    clear hK6
    first | refine wp_condD rfl (fun hc17 => ?_) (fun hc17 => ?_) | refine wp_condN rfl (fun hc17 => ?_) (fun hc17 => ?_) | refine wp_condNB rfl (fun hc17 => ?_) (fun hc17 => ?_) | refine wp_cond' rfl (fun hc17 => ?_) (fun hc17 => ?_)
    ·refine wp_seq' fun K7 hK7 => ?_
     refine wp_reg ?_
     refine ol_r (r_assign rfl) rfl ?_
     refine ol_nil (to_k0 (fun _ _ h => h) (hK7 _ _ _ _ _ ?_))
     clear hK7
     refine hQ.ret (rvs1 (rv_t rfl)) (fun _ _ h => h) fun w hb hs hB hkd => ?_
     have hc := takeC_4 (g := (mG (0 : Int) D)) (first := first) (d := d) (n := n) (by simp_all) (by simp_all) (by omega)
     refine ⟨by rw [hc], hb, ?_, hB, hkd⟩
     unfold takeD
     rw [hc]
     exact hs.sub (subH_same rfl (subH_same rfl (subH_same rfl (subH_same rfl (subH_same rfl subH_nil)))))
    ·refine wp_skip' (to_k0 (fun _ _ h => h) (hK2 _ _ _ _ _ ?_))
     clear hK2
     refine wp_seq' fun K8 hK8 => ?_
     refine wp_reg ?_
     refine ol_r (r_move rfl) rfl ?_
     refine ol_r (r_nilS rfl (rfl)) rfl ?_
     refine ol_r (r_fa (o' := 3) rfl fl94_3 rfl) rfl ?_
     refine ol_r (r_ld (id := 810) rfl rfl rfl sc92) rfl ?_
     refine ol_r (r_move rfl) rfl ?_
     refine ol_r (r_lookup (K := Value.int .i64) (V := Value.int .i64) (z := (0 : Int)) (id := 811) rfl rfl rfl mt92) rfl ?_
     refine ol_r (r_move rfl) rfl ?_
     have hn : 0 ≤ n ∧ n ≤ 10000 := inB_iff.1 (by simp_all)
     refine ol_r (r_sub rfl rfl (by omega)) rfl ?_
     refine ol_mapup (K := Value.int .i64) (V := Value.int .i64) (z := (0 : Int)) (id := 811) rfl rfl rfl rfl mt92 trivial ?_
     refine ol_nil (to_k0 (fun _ _ h => h) (hK8 _ _ _ _ _ ?_))
     clear hK8
     refine wp_seq' fun K9 hK9 => ?_
     refine wp_reg ?_
     refine ol_r (r_assign rfl) rfl ?_
     refine ol_nil (to_k0 (fun _ _ h => h) (hK9 _ _ _ _ _ ?_))
     clear hK9
     refine hQ.ret (rvs1 (rv_t rfl)) (fun _ _ h => h) fun w hb hs hB hkd => ?_
     have hc := takeC_0 (g := (mG (0 : Int) D)) (first := first) (d := d) (n := n) (by simp_all) (by simp_all) (by omega)
     refine ⟨by rw [hc], hb, ?_, hB, hkd⟩
     unfold takeD
     rw [hc]
     exact hs.sub (subH_same rfl (subH_same rfl (subH_same rfl (subH_same rfl (subH_same rfl subH_nil)))))
theorem load_NewOk (first fit fat : Int) (w : World) (h : newB first fit fat = true) :
    Calls Try.prog 36 #[.int .i64 first, .int .i64 fit, .int .i64 fat] w fun e w' => ∃ b m, e = .returned (.tuple #[.pointer (some ⟨b, 0, none⟩), .int .i64 0]) ∧ Below w.heap.size w w' ∧ Sat w.heap.size w' [(1001, .blk b [(0, .int .i64 first), (1, .int .i64 fit), (2, .int .i64 fat), (3, .map (some m))] 94), (1002, .mp m [])] := by
  unfold newB at h
  simp only [Bool.and_eq_true] at h
  obtain ⟨⟨h1, h2⟩, h3⟩ := h
  refine enterQ (N := 27) (C := fun _ => True) (H := []) (B := w.heap.size) (args := [_, _, _]) Try.func36 rfl rfl rfl (Nat.le_refl _) (Sat.nil _ _) fun Q hQ => ?_
  refine wp_seq' fun K1 hK1 => ?_
  refine wp_reg ?_
  refine ol_r (r_assign rfl) rfl ?_
  refine ol_r (r_assign rfl) rfl ?_
  refine ol_nil (to_k0 (fun _ _ h => h) (hK1 _ _ _ _ _ ?_))
  clear hK1
  refine wp_seq' fun K2 hK2 => ?_
  refine wp_seq' fun K3 hK3 => ?_
  refine wp_reg ?_
  refine ol_r (r_move rfl) rfl ?_
  refine ol_call rfl rfl cb67 rfl (fun w1 hb1 hs1 hB1 => Calls.mono (load_in _ _ _ _) ?_)
  rintro e w2 ⟨rfl, hb2⟩
  refine After.below rfl hb1 hs1 hB1 hb2 ?_
  clear hb2 hB1 hs1 hb1 w2 w1
  refine ol_r (r_not rfl) rfl ?_
  refine ol_r (r_move rfl) rfl ?_
  refine ol_split (d := 11) rfl (fun hs11 => ?_) (fun hs11 => ?_)
  ·have phs11 := hs11; try simp only [decide_eq_true_eq, decide_eq_false_iff_not, Bool.not_eq_true', Bool.not_eq_false', Bool.not_true, Bool.not_false] at phs11
   refine ol_s rfl rfl hs11 rfl ?_
   refine ol_s rfl rfl hs11 rfl ?_
   refine ol_s rfl rfl hs11 rfl ?_
   refine ol_r (r_pickT rfl hs11 rfl) rfl ?_
   refine ol_r (r_move rfl) rfl ?_
   refine ol_s rfl rfl rfl rfl ?_
   refine ol_s rfl rfl rfl rfl ?_
   refine ol_s rfl rfl rfl rfl ?_
   refine ol_r (r_pickT rfl rfl rfl) rfl ?_
   refine ol_nil (to_k0 (fun _ _ h => h) (hK3 _ _ _ _ _ ?_))
   clear hK3
   refine wp_condT rfl ?_
   refine wp_seq' fun K4 hK4 => ?_
   refine wp_reg ?_
   refine ol_r (r_assign rfl) rfl ?_
   refine ol_r (r_assign rfl) rfl ?_
   refine ol_nil (to_k0 (fun _ _ h => h) (hK4 _ _ _ _ _ ?_))
   clear hK4
   refine hQ.ret (rvs2 (rv_t rfl) (rv_t rfl)) (fun _ _ h => h) fun w hb hs hB hkd => ?_
   exfalso; simp_all
  ·have phs11 := hs11; try simp only [decide_eq_true_eq, decide_eq_false_iff_not, Bool.not_eq_true', Bool.not_eq_false', Bool.not_true, Bool.not_false] at phs11
   refine ol_g rfl rfl hs11 ?_
   refine ol_r (r_move rfl) rfl ?_
   refine ol_g rfl rfl hs11 ?_
   refine ol_call rfl rfl cb66 rfl (fun w1 hb1 hs1 hB1 => Calls.mono (load_isState _ _) ?_)
   rintro e w2 ⟨rfl, hb2⟩
   refine After.below rfl hb1 hs1 hB1 hb2 ?_
   clear hb2 hB1 hs1 hb1 w2 w1
   refine ol_g rfl rfl hs11 ?_
   refine ol_r (r_not rfl) rfl ?_
   refine ol_r (r_pickF rfl hs11 rfl) rfl ?_
   refine ol_r (r_move rfl) rfl ?_
   refine ol_split (d := 16) rfl (fun hs16 => ?_) (fun hs16 => ?_)
   ·have phs16 := hs16; try simp only [decide_eq_true_eq, decide_eq_false_iff_not, Bool.not_eq_true', Bool.not_eq_false', Bool.not_true, Bool.not_false] at phs16
    refine ol_s rfl rfl hs16 rfl ?_
    refine ol_s rfl rfl hs16 rfl ?_
    refine ol_s rfl rfl hs16 rfl ?_
    refine ol_r (r_pickT rfl hs16 rfl) rfl ?_
    refine ol_nil (to_k0 (fun _ _ h => h) (hK3 _ _ _ _ _ ?_))
    clear hK3
    refine wp_condT rfl ?_
    refine wp_seq' fun K5 hK5 => ?_
    refine wp_reg ?_
    refine ol_r (r_assign rfl) rfl ?_
    refine ol_r (r_assign rfl) rfl ?_
    refine ol_nil (to_k0 (fun _ _ h => h) (hK5 _ _ _ _ _ ?_))
    clear hK5
    refine hQ.ret (rvs2 (rv_t rfl) (rv_t rfl)) (fun _ _ h => h) fun w hb hs hB hkd => ?_
    exfalso; simp_all
   ·have phs16 := hs16; try simp only [decide_eq_true_eq, decide_eq_false_iff_not, Bool.not_eq_true', Bool.not_eq_false', Bool.not_true, Bool.not_false] at phs16
    refine ol_g rfl rfl hs16 ?_
    refine ol_r (r_move rfl) rfl ?_
    refine ol_g rfl rfl hs16 ?_
    refine ol_call rfl rfl cb66 rfl (fun w1 hb1 hs1 hB1 => Calls.mono (load_isState _ _) ?_)
    rintro e w2 ⟨rfl, hb2⟩
    refine After.below rfl hb1 hs1 hB1 hb2 ?_
    clear hb2 hB1 hs1 hb1 w2 w1
    refine ol_g rfl rfl hs16 ?_
    refine ol_r (r_not rfl) rfl ?_
    refine ol_r (r_pickF rfl hs16 rfl) rfl ?_
    refine ol_nil (to_k0 (fun _ _ h => h) (hK3 _ _ _ _ _ ?_))
    clear hK3
    first | refine wp_condD rfl (fun hc20 => ?_) (fun hc20 => ?_) | refine wp_condN rfl (fun hc20 => ?_) (fun hc20 => ?_) | refine wp_condNB rfl (fun hc20 => ?_) (fun hc20 => ?_) | refine wp_cond' rfl (fun hc20 => ?_) (fun hc20 => ?_)
    ·refine wp_seq' fun K6 hK6 => ?_
     refine wp_reg ?_
     refine ol_r (r_assign rfl) rfl ?_
     refine ol_r (r_assign rfl) rfl ?_
     refine ol_nil (to_k0 (fun _ _ h => h) (hK6 _ _ _ _ _ ?_))
     clear hK6
     refine hQ.ret (rvs2 (rv_t rfl) (rv_t rfl)) (fun _ _ h => h) fun w hb hs hB hkd => ?_
     exfalso; simp_all
    ·refine wp_skip' (to_k0 (fun _ _ h => h) (hK2 _ _ _ _ _ ?_))
     clear hK2
     refine wp_seq' fun K7 hK7 => ?_
     refine wp_reg ?_
     refine ol_r (r_move rfl) rfl ?_
     refine ol_r (r_move rfl) rfl ?_
     refine ol_r (r_move rfl) rfl ?_
     refine ol_mkmap 24 rfl fun b24 => ?_
     refine ol_r (r_build rfl (fun _ => bd94_0_1_2_3 _ _ _ _ _)) rfl ?_
     refine ol_box 26 rfl rfl rfl fun b26 => ?_
     refine ol_r (r_assign rfl) rfl ?_
     refine ol_r (r_assign rfl) rfl ?_
     refine ol_nil (to_k0 (fun _ _ h => h) (hK7 _ _ _ _ _ ?_))
     clear hK7
     refine hQ.ret (rvs2 (rv_t rfl) (rv_t rfl)) (fun _ _ h => h) fun w hb hs hB hkd => ?_
     exact ⟨_, _, rfl, hb, hs.kle [(26, 1001), (24, 1002)] (kle_cons rfl (Ent.le_refl _) (kle_cons rfl (Ent.le_refl _) kle_nil)) (by decide)⟩
theorem load_NewNo (first fit fat : Int) (w : World) (h : newB first fit fat = false) :
    Calls Try.prog 36 #[.int .i64 first, .int .i64 fit, .int .i64 fat] w fun e w' => e = .returned (.tuple #[.pointer none, .int .i64 9]) ∧ Below w.heap.size w w' := by
  unfold newB at h
  refine enterQ (N := 27) (C := fun _ => True) (H := []) (B := w.heap.size) (args := [_, _, _]) Try.func36 rfl rfl rfl (Nat.le_refl _) (Sat.nil _ _) fun Q hQ => ?_
  refine wp_seq' fun K1 hK1 => ?_
  refine wp_reg ?_
  refine ol_r (r_assign rfl) rfl ?_
  refine ol_r (r_assign rfl) rfl ?_
  refine ol_nil (to_k0 (fun _ _ h => h) (hK1 _ _ _ _ _ ?_))
  clear hK1
  refine wp_seq' fun K2 hK2 => ?_
  refine wp_seq' fun K3 hK3 => ?_
  refine wp_reg ?_
  refine ol_r (r_move rfl) rfl ?_
  refine ol_call rfl rfl cb67 rfl (fun w1 hb1 hs1 hB1 => Calls.mono (load_in _ _ _ _) ?_)
  rintro e w2 ⟨rfl, hb2⟩
  refine After.below rfl hb1 hs1 hB1 hb2 ?_
  clear hb2 hB1 hs1 hb1 w2 w1
  refine ol_r (r_not rfl) rfl ?_
  refine ol_r (r_move rfl) rfl ?_
  refine ol_split (d := 11) rfl (fun hs11 => ?_) (fun hs11 => ?_)
  ·have phs11 := hs11; try simp only [decide_eq_true_eq, decide_eq_false_iff_not, Bool.not_eq_true', Bool.not_eq_false', Bool.not_true, Bool.not_false] at phs11
   refine ol_s rfl rfl hs11 rfl ?_
   refine ol_s rfl rfl hs11 rfl ?_
   refine ol_s rfl rfl hs11 rfl ?_
   refine ol_r (r_pickT rfl hs11 rfl) rfl ?_
   refine ol_r (r_move rfl) rfl ?_
   refine ol_s rfl rfl rfl rfl ?_
   refine ol_s rfl rfl rfl rfl ?_
   refine ol_s rfl rfl rfl rfl ?_
   refine ol_r (r_pickT rfl rfl rfl) rfl ?_
   refine ol_nil (to_k0 (fun _ _ h => h) (hK3 _ _ _ _ _ ?_))
   clear hK3
   refine wp_condT rfl ?_
   refine wp_seq' fun K4 hK4 => ?_
   refine wp_reg ?_
   refine ol_r (r_assign rfl) rfl ?_
   refine ol_r (r_assign rfl) rfl ?_
   refine ol_nil (to_k0 (fun _ _ h => h) (hK4 _ _ _ _ _ ?_))
   clear hK4
   refine hQ.ret (rvs2 (rv_t rfl) (rv_t rfl)) (fun _ _ h => h) fun w hb hs hB hkd => ?_
   exact ⟨rfl, hb⟩
  ·have phs11 := hs11; try simp only [decide_eq_true_eq, decide_eq_false_iff_not, Bool.not_eq_true', Bool.not_eq_false', Bool.not_true, Bool.not_false] at phs11
   refine ol_g rfl rfl hs11 ?_
   refine ol_r (r_move rfl) rfl ?_
   refine ol_g rfl rfl hs11 ?_
   refine ol_call rfl rfl cb66 rfl (fun w1 hb1 hs1 hB1 => Calls.mono (load_isState _ _) ?_)
   rintro e w2 ⟨rfl, hb2⟩
   refine After.below rfl hb1 hs1 hB1 hb2 ?_
   clear hb2 hB1 hs1 hb1 w2 w1
   refine ol_g rfl rfl hs11 ?_
   refine ol_r (r_not rfl) rfl ?_
   refine ol_r (r_pickF rfl hs11 rfl) rfl ?_
   refine ol_r (r_move rfl) rfl ?_
   refine ol_split (d := 16) rfl (fun hs16 => ?_) (fun hs16 => ?_)
   ·have phs16 := hs16; try simp only [decide_eq_true_eq, decide_eq_false_iff_not, Bool.not_eq_true', Bool.not_eq_false', Bool.not_true, Bool.not_false] at phs16
    refine ol_s rfl rfl hs16 rfl ?_
    refine ol_s rfl rfl hs16 rfl ?_
    refine ol_s rfl rfl hs16 rfl ?_
    refine ol_r (r_pickT rfl hs16 rfl) rfl ?_
    refine ol_nil (to_k0 (fun _ _ h => h) (hK3 _ _ _ _ _ ?_))
    clear hK3
    refine wp_condT rfl ?_
    refine wp_seq' fun K5 hK5 => ?_
    refine wp_reg ?_
    refine ol_r (r_assign rfl) rfl ?_
    refine ol_r (r_assign rfl) rfl ?_
    refine ol_nil (to_k0 (fun _ _ h => h) (hK5 _ _ _ _ _ ?_))
    clear hK5
    refine hQ.ret (rvs2 (rv_t rfl) (rv_t rfl)) (fun _ _ h => h) fun w hb hs hB hkd => ?_
    exact ⟨rfl, hb⟩
   ·have phs16 := hs16; try simp only [decide_eq_true_eq, decide_eq_false_iff_not, Bool.not_eq_true', Bool.not_eq_false', Bool.not_true, Bool.not_false] at phs16
    refine ol_g rfl rfl hs16 ?_
    refine ol_r (r_move rfl) rfl ?_
    refine ol_g rfl rfl hs16 ?_
    refine ol_call rfl rfl cb66 rfl (fun w1 hb1 hs1 hB1 => Calls.mono (load_isState _ _) ?_)
    rintro e w2 ⟨rfl, hb2⟩
    refine After.below rfl hb1 hs1 hB1 hb2 ?_
    clear hb2 hB1 hs1 hb1 w2 w1
    refine ol_g rfl rfl hs16 ?_
    refine ol_r (r_not rfl) rfl ?_
    refine ol_r (r_pickF rfl hs16 rfl) rfl ?_
    refine ol_nil (to_k0 (fun _ _ h => h) (hK3 _ _ _ _ _ ?_))
    clear hK3
    first | refine wp_condD rfl (fun hc20 => ?_) (fun hc20 => ?_) | refine wp_condN rfl (fun hc20 => ?_) (fun hc20 => ?_) | refine wp_condNB rfl (fun hc20 => ?_) (fun hc20 => ?_) | refine wp_cond' rfl (fun hc20 => ?_) (fun hc20 => ?_)
    ·refine wp_seq' fun K6 hK6 => ?_
     refine wp_reg ?_
     refine ol_r (r_assign rfl) rfl ?_
     refine ol_r (r_assign rfl) rfl ?_
     refine ol_nil (to_k0 (fun _ _ h => h) (hK6 _ _ _ _ _ ?_))
     clear hK6
     refine hQ.ret (rvs2 (rv_t rfl) (rv_t rfl)) (fun _ _ h => h) fun w hb hs hB hkd => ?_
     exact ⟨rfl, hb⟩
    ·refine wp_skip' (to_k0 (fun _ _ h => h) (hK2 _ _ _ _ _ ?_))
     clear hK2
     refine wp_seq' fun K7 hK7 => ?_
     refine wp_reg ?_
     refine ol_r (r_move rfl) rfl ?_
     refine ol_r (r_move rfl) rfl ?_
     refine ol_r (r_move rfl) rfl ?_
     refine ol_mkmap 24 rfl fun b24 => ?_
     refine ol_r (r_build rfl (fun _ => bd94_0_1_2_3 _ _ _ _ _)) rfl ?_
     refine ol_box 26 rfl rfl rfl fun b26 => ?_
     refine ol_r (r_assign rfl) rfl ?_
     refine ol_r (r_assign rfl) rfl ?_
     refine ol_nil (to_k0 (fun _ _ h => h) (hK7 _ _ _ _ _ ?_))
     clear hK7
     refine hQ.ret (rvs2 (rv_t rfl) (rv_t rfl)) (fun _ _ h => h) fun w hb hs hB hkd => ?_
     exfalso; simp_all
theorem load_Between (b m : Nat) (first fit fat from_ to : Int) (D : List (Int × Int)) (w : World) (hk : Blk w.heap.size w b [(0, .int .i64 first), (1, .int .i64 fit), (2, .int .i64 fat), (3, .map (some m))]) (hm : Mp w.heap.size w m (mEnc (Value.int .i64) (Value.int .i64) D)) (hok : BkOk (mG (0 : Int) D) first fit fat) :
    Calls Try.prog 44 #[.pointer (some ⟨b, 0, none⟩), .int .i64 from_, .int .i64 to] w fun e w' => OutS w.heap.size w' (betR (mG (0 : Int) D) first fit fat from_ to) e ∧ Below w.heap.size w w' := by
  have hf := hok.first
  refine enterQ (N := 89) (C := fun _ => True) (H := []) (B := w.heap.size) (args := [_, _, _]) Try.func44 rfl rfl rfl (Nat.le_refl _) (Sat.nil _ _) fun Q hQ => ?_
  refine wp_seq' fun K1 hK1 => ?_
  refine wp_reg ?_
  refine ol_r (r_assign rfl) rfl ?_
  refine ol_r (r_assign rfl) rfl ?_
  refine ol_nil (to_k0 (fun _ _ h => h) (hK1 _ _ _ _ _ ?_))
  clear hK1
  refine wp_seq' fun K2 hK2 => ?_
  refine wp_block' ?_
  refine wp_seq' fun K3 hK3 => ?_
  refine wp_reg ?_
  refine ol_r (r_move rfl) rfl ?_
  refine ol_r (r_move rfl) rfl ?_
  refine ol_call rfl rfl cb79 rfl (fun w1 hb1 hs1 hB1 => Calls.mono (load_has b m first fit fat from_ _ (hk.at hb1 hB1) hf) ?_)
  rintro e w2 ⟨rfl, hb2⟩
  refine After.below rfl hb1 hs1 hB1 hb2 ?_
  clear hb2 hB1 hs1 hb1 w2 w1
  refine ol_r (r_not rfl) rfl ?_
  refine ol_r (r_move rfl) rfl ?_
  refine ol_split (d := 18) rfl (fun hs18 => ?_) (fun hs18 => ?_)
  ·have phs18 := hs18; try simp only [decide_eq_true_eq, decide_eq_false_iff_not, Bool.not_eq_true', Bool.not_eq_false', Bool.not_true, Bool.not_false] at phs18
   refine ol_s rfl rfl hs18 rfl ?_
   refine ol_s rfl rfl hs18 rfl ?_
   refine ol_s rfl rfl hs18 rfl ?_
   refine ol_s rfl rfl hs18 rfl ?_
   refine ol_r (r_pickT rfl hs18 rfl) rfl ?_
   refine ol_r (r_assign rfl) rfl ?_
   refine ol_nil (to_k0 (fun _ _ h => h) (hK3 _ _ _ _ _ ?_))
   clear hK3
   refine wp_condT rfl ?_
   refine wp_seq' fun K4 hK4 => ?_
   refine wp_reg ?_
   refine ol_r (r_assign rfl) rfl ?_
   refine ol_r (r_assign rfl) rfl ?_
   refine ol_nil (to_k0 (fun _ _ h => h) (hK4 _ _ _ _ _ ?_))
   clear hK4
   refine hQ.ret (rvs2 (rv_t rfl) (rv_t rfl)) (fun _ _ h => h) fun w hb hs hB hkd => ?_
   exact ⟨outS_no (betR_9 (by simp_all)), hb⟩
  ·have phs18 := hs18; try simp only [decide_eq_true_eq, decide_eq_false_iff_not, Bool.not_eq_true', Bool.not_eq_false', Bool.not_true, Bool.not_false] at phs18
   refine ol_g rfl rfl hs18 ?_
   refine ol_r (r_move rfl) rfl ?_
   refine ol_g rfl rfl hs18 ?_
   refine ol_r (r_move rfl) rfl ?_
   refine ol_g rfl rfl hs18 ?_
   refine ol_call rfl rfl cb79 rfl (fun w1 hb1 hs1 hB1 => Calls.mono (load_has b m first fit fat to _ (hk.at hb1 hB1) hf) ?_)
   rintro e w2 ⟨rfl, hb2⟩
   refine After.below rfl hb1 hs1 hB1 hb2 ?_
   clear hb2 hB1 hs1 hb1 w2 w1
   refine ol_g rfl rfl hs18 ?_
   refine ol_r (r_not rfl) rfl ?_
   refine ol_r (r_pickF rfl hs18 rfl) rfl ?_
   refine ol_r (r_assign rfl) rfl ?_
   refine ol_nil (to_k0 (fun _ _ h => h) (hK3 _ _ _ _ _ ?_))
   clear hK3
   first | refine wp_condD rfl (fun hc13 => ?_) (fun hc13 => ?_) | refine wp_condN rfl (fun hc13 => ?_) (fun hc13 => ?_) | refine wp_condNB rfl (fun hc13 => ?_) (fun hc13 => ?_) | refine wp_cond' rfl (fun hc13 => ?_) (fun hc13 => ?_)
   ·refine wp_seq' fun K5 hK5 => ?_
    refine wp_reg ?_
    refine ol_r (r_assign rfl) rfl ?_
    refine ol_r (r_assign rfl) rfl ?_
    refine ol_nil (to_k0 (fun _ _ h => h) (hK5 _ _ _ _ _ ?_))
    clear hK5
    refine hQ.ret (rvs2 (rv_t rfl) (rv_t rfl)) (fun _ _ h => h) fun w hb hs hB hkd => ?_
    exact ⟨outS_no (betR_9 (by simp_all)), hb⟩
   ·refine wp_seq' fun K6 hK6 => ?_
    refine wp_reg ?_
    refine ol_r (r_move rfl) rfl ?_
    refine ol_r (r_move rfl) rfl ?_
    refine ol_r (r_lss rfl rfl) rfl ?_
    refine ol_r (r_assign rfl) rfl ?_
    refine ol_nil (to_k0 (fun _ _ h => h) (hK6 _ _ _ _ _ ?_))
    clear hK6
    first | refine wp_condD rfl (fun hc24 => ?_) (fun hc24 => ?_) | refine wp_condN rfl (fun hc24 => ?_) (fun hc24 => ?_) | refine wp_condNB rfl (fun hc24 => ?_) (fun hc24 => ?_) | refine wp_cond' rfl (fun hc24 => ?_) (fun hc24 => ?_)
    ·refine wp_seq' fun K7 hK7 => ?_
     refine wp_reg ?_
     refine ol_r (r_assign rfl) rfl ?_
     refine ol_r (r_assign rfl) rfl ?_
     refine ol_nil (to_k0 (fun _ _ h => h) (hK7 _ _ _ _ _ ?_))
     clear hK7
     refine hQ.ret (rvs2 (rv_t rfl) (rv_t rfl)) (fun _ _ h => h) fun w hb hs hB hkd => ?_
     exact ⟨outS_no (betR_10 (by simp_all) (by omega)), hb⟩
    ·refine wp_skip' (to_k0 (fun _ _ h => h) (hK2 _ _ _ _ _ ?_))
     clear hK2
     refine wp_seq' fun K8 hK8 => ?_
     refine wp_reg ?_
     refine ol_nilrow 8 61 5 ?_
     refine ol_r (r_assign rfl) rfl ?_
     refine ol_nil (to_k0 (fun _ _ h => h) (hK8 _ _ _ _ _ ?_))
     clear hK8
     refine wp_seq' fun K9 hK9 => ?_
     refine wp_regq (by kernel_rfl) (by kernel_rfl) ?_
     refine ql_r (r_move rfl) rfl ?_
     refine ql_r (r_nilS rfl (rfl)) rfl ?_
     refine ql_r (r_fa (o' := 1) rfl fl94_1 rfl) rfl ?_
     refine ql_r (r_ldw rfl (fun w1 hb1 hs1 hB1 => Blk.loads (o := 1) hk hb1 sc3 rfl)) rfl ?_
     refine ql_r (r_move rfl) rfl ?_
     refine ql_r (r_nilS rfl (rfl)) rfl ?_
     refine ql_r (r_fa (o' := 2) rfl fl94_2 rfl) rfl ?_
     refine ql_r (r_ldw rfl (fun w1 hb1 hs1 hB1 => Blk.loads (o := 2) hk hb1 sc3 rfl)) rfl ?_
     refine ql_r (r_assign rfl) rfl ?_
     refine ql_r (r_assign rfl) rfl ?_
     refine ql_nil (to_k0 (fun _ _ h => h) (hK9 _ _ _ _ _ ?_))
     clear hK9
     refine wp_seq' fun K10 hK10 => ?_
     refine wp_seq' fun K11 hK11 => ?_
     refine wp_reg ?_
     have hd1 : dayB first from_ = true := by simp_all
     have hd2 : dayB first to = true := by simp_all
     have hb1 := dayB_iff.1 hd1
     have hb2 := dayB_iff.1 hd2
     refine ol_r (r_move rfl) rfl ?_
     refine ol_r (r_move rfl) rfl ?_
     refine ol_r (r_nilS rfl (rfl)) rfl ?_
     refine ol_r (r_fa (o' := 0) rfl fl94_0 rfl) rfl ?_
     refine ol_r (r_ldw rfl (fun w1 hb1 hs1 hB1 => Blk.loads (o := 0) hk hb1 sc3 rfl)) rfl ?_
     refine ol_r (r_sub rfl rfl (by omega)) rfl ?_
     refine ol_r (r_add rfl rfl (by omega)) rfl ?_
     refine ol_r (r_move rfl) rfl ?_
     refine ol_nil (to_k0 (fun _ _ h => h) (hK11 _ _ _ _ _ ?_))
     clear hK11
     refine wp_block' ?_
     apply wp_loopM (σ := Nat × Option Addr × Nat × Nat) (fun s => s.1 ≤ (to - first + 1).toNat ∧ s.2.2.2 = (betL (mG (0 : Int) D) first fit fat from_ s.1).length) (fun s => [(43, .int .i64 s.1), (9, .int .i64 (fitN (mG (0 : Int) D) first 42 fit s.1)), (10, .int .i64 (fitN (mG (0 : Int) D) first 7 fat s.1)), (8, .slice s.2.1 s.2.2.2 s.2.2.1)]) [(0, _), (1, _), (6, _), (7, _), (42, _)] (fun s => [(8, .row s.2.1 s.2.2.2 s.2.2.1 (encState.enc (betL (mG (0 : Int) D) first fit fat from_ s.1)) 61 5)]) [] (fun s => (to - first + 1).toNat - s.1) ((0, none, 0, 0))
     ·try dsimp only
      exact ⟨Nat.zero_le _, rfl⟩
     ·exact (sub_cons rfl (sub_cons rfl (sub_cons rfl (sub_cons rfl sub_nil))))
     ·exact (sub_cons rfl (sub_cons rfl (sub_cons rfl (sub_cons rfl (sub_cons rfl sub_nil)))))
     ·exact (subH_row rfl (by first | (dsimp only; rfl; done) | (rfl; done) | (dsimp only; done)) subH_nil)
     ·exact subH_nil
     ·rintro ⟨k, na, nc, nn⟩ ⟨hk2, hnn⟩
      dsimp only at hk2 hnn ⊢
      have f1 := fitN_bd (first := first) (c := 42) hok.load (by omega) hok.fit k
      have f2 := fitN_bd (first := first) (c := 7) hok.load (by omega) hok.fat k
      have f3 := betL_len (mG (0 : Int) D) first fit fat from_ k
      have f4 := hok.load (first + k)
      intro K12 hK12
      refine wp_seq' fun K13 hK13 => ?_
      refine wp_reg ?_
      refine ol_r (r_lss rfl rfl) rfl ?_
      refine ol_nil (to_k0 (fun _ _ h => h) (hK13 _ _ _ _ _ ?_))
      clear hK13
      refine wp_seq' fun K14 hK14 => ?_
      first | refine wp_condD rfl (fun hc44 => ?_) (fun hc44 => ?_) | refine wp_condN rfl (fun hc44 => ?_) (fun hc44 => ?_) | refine wp_condNB rfl (fun hc44 => ?_) (fun hc44 => ?_) | refine wp_cond' rfl (fun hc44 => ?_) (fun hc44 => ?_)
      ·refine wp_skip' (to_k0 (fun _ _ h => h) (hK14 _ _ _ _ _ ?_))
       clear hK14
       refine wp_seq' fun K15 hK15 => ?_
       refine wp_block' ?_
       refine wp_seq' fun K16 hK16 => ?_
       refine wp_reg ?_
       refine ol_r (r_move rfl) rfl ?_
       refine ol_r (r_assign rfl) rfl ?_
       refine ol_nil (to_k0 (fun _ _ h => h) (hK16 _ _ _ _ _ ?_))
       clear hK16
       refine wp_seq' fun K17 hK17 => ?_
       refine wp_rega [(999, [(8, _)])] (by kernel_rfl) ⟨.inr (subH_same rfl subH_nil), trivial⟩ ?_
       refine aq_r 0 999 rfl (by kernel_rfl) (by kernel_rfl) (by kernel_rfl) (.head _) (by kernel_rfl) (by kernel_rfl) rfl (r_move rfl) ?_
       refine aq_r 1 999 rfl (by kernel_rfl) (by kernel_rfl) (by kernel_rfl) (.head _) (by kernel_rfl) (by kernel_rfl) rfl (r_nilS rfl (rfl)) ?_
       refine aq_r 2 999 rfl (by kernel_rfl) (by kernel_rfl) (by kernel_rfl) (.head _) (by kernel_rfl) (by kernel_rfl) rfl (r_fa (o' := 0) rfl fl94_0 rfl) ?_
       refine aq_r 3 999 rfl (by kernel_rfl) (by kernel_rfl) (by kernel_rfl) (.head _) (by kernel_rfl) (by kernel_rfl) rfl (r_ldw rfl (fun w1 hb1 hs1 hB1 => Blk.loads (o := 0) hk hb1 sc3 rfl)) ?_
       refine aq_r 4 999 rfl (by kernel_rfl) (by kernel_rfl) (by kernel_rfl) (.head _) (by kernel_rfl) (by kernel_rfl) rfl (r_move rfl) ?_
       refine aq_r 5 999 rfl (by kernel_rfl) (by kernel_rfl) (by kernel_rfl) (.head _) (by kernel_rfl) (by kernel_rfl) rfl (r_add rfl rfl (by omega)) ?_
       refine aq_r 6 999 rfl (by kernel_rfl) (by kernel_rfl) (by kernel_rfl) (.head _) (by kernel_rfl) (by kernel_rfl) rfl (r_move rfl) ?_
       refine aq_r 7 999 rfl (by kernel_rfl) (by kernel_rfl) (by kernel_rfl) (.head _) (by kernel_rfl) (by kernel_rfl) rfl (r_nilS rfl (rfl)) ?_
       refine aq_r 8 999 rfl (by kernel_rfl) (by kernel_rfl) (by kernel_rfl) (.head _) (by kernel_rfl) (by kernel_rfl) rfl (r_fa (o' := 3) rfl fl94_3 rfl) ?_
       refine aq_r 9 999 rfl (by kernel_rfl) (by kernel_rfl) (by kernel_rfl) (.head _) (by kernel_rfl) (by kernel_rfl) rfl (r_ldw rfl (fun w1 hb1 hs1 hB1 => Blk.loads (o := 3) hk hb1 sc92 rfl)) ?_
       refine aq_r 10 999 rfl (by kernel_rfl) (by kernel_rfl) (by kernel_rfl) (.head _) (by kernel_rfl) (by kernel_rfl) rfl (r_move rfl) ?_
       refine aq_r 11 999 rfl (by kernel_rfl) (by kernel_rfl) (by kernel_rfl) (.head _) (by kernel_rfl) (by kernel_rfl) rfl (r_nilS rfl (rfl)) ?_
       refine aq_r 12 999 rfl (by kernel_rfl) (by kernel_rfl) (by kernel_rfl) (.head _) (by kernel_rfl) (by kernel_rfl) rfl (r_fa (o' := 0) rfl fl94_0 rfl) ?_
       refine aq_r 13 999 rfl (by kernel_rfl) (by kernel_rfl) (by kernel_rfl) (.head _) (by kernel_rfl) (by kernel_rfl) rfl (r_ldw rfl (fun w1 hb1 hs1 hB1 => Blk.loads (o := 0) hk hb1 sc3 rfl)) ?_
       refine aq_r 14 999 rfl (by kernel_rfl) (by kernel_rfl) (by kernel_rfl) (.head _) (by kernel_rfl) (by kernel_rfl) rfl (r_move rfl) ?_
       refine aq_r 15 999 rfl (by kernel_rfl) (by kernel_rfl) (by kernel_rfl) (.head _) (by kernel_rfl) (by kernel_rfl) rfl (r_add rfl rfl (by omega)) ?_
       refine aq_r 16 999 rfl (by kernel_rfl) (by kernel_rfl) (by kernel_rfl) (.head _) (by kernel_rfl) (by kernel_rfl) rfl (r_lookupR (K := Value.int .i64) (V := Value.int .i64) (z := (0 : Int)) hm rfl rfl mt92) ?_
       refine aq_r 17 999 rfl (by kernel_rfl) (by kernel_rfl) (by kernel_rfl) (.head _) (by kernel_rfl) (by kernel_rfl) rfl (r_move rfl) ?_
       refine aq_r 18 999 rfl (by kernel_rfl) (by kernel_rfl) (by kernel_rfl) (.head _) (by kernel_rfl) (by kernel_rfl) rfl (r_move rfl) ?_
       refine aq_r 19 999 rfl (by kernel_rfl) (by kernel_rfl) (by kernel_rfl) (.head _) (by kernel_rfl) (by kernel_rfl) rfl (r_sub rfl rfl (by omega)) ?_
       refine aq_r 20 999 rfl (by kernel_rfl) (by kernel_rfl) (by kernel_rfl) (.head _) (by kernel_rfl) (by kernel_rfl) rfl (r_build rfl (fun _ => bd61_0_1_4 _ _ _ _)) ?_
       refine aq_one (i := 21) (by kernel_rfl) rfl fun K18 hK18 => ?_
       refine ol_alloc 12 z61 rfl fun b12 => ?_
       refine ol_nil (to_k0 (fun _ _ h => h) (hK18 _ _ ⟨.inr (by repeat' first | exact subH_nil | refine subH_same rfl ?_ | (refine subH_blk rfl (by repeat' first | exact sub_nil | refine sub_cons rfl ?_) ?_)), trivial⟩ ?_))
       clear hK18
       refine aq_one (i := 22) (by kernel_rfl) rfl fun K19 hK19 => ?_
       refine ol_store (id := 12) rfl rfl rfl rfl sz61 rfl rfl (by first | decide | exact Nat.zero_lt_succ _ | simp) ?_
       refine ol_nil (to_k0 (fun _ _ h => h) (hK19 _ _ ⟨.inr (by repeat' first | exact subH_nil | refine subH_same rfl ?_ | (refine subH_blk rfl (by repeat' first | exact sub_nil | refine sub_cons rfl ?_) ?_)), trivial⟩ ?_))
       clear hK19
       refine aq_done (by kernel_rfl) ?_
       refine (to_k0 (fun _ _ h => h) (hK17 _ _ _ _ _ ?_))
       clear hK17
       refine wp_seq' fun K20 hK20 => ?_
       refine wp_regq (by kernel_rfl) (by kernel_rfl) ?_
       refine ql_r (r_move rfl) rfl ?_
       refine ql_r (r_fa (o' := 1) rfl fl61_1 rfl) rfl ?_
       refine ql_r (r_ld (id := 12) rfl rfl rfl sc3) rfl ?_
       refine ql_call rfl rfl cb68 rfl (fun w1 hb1 hs1 hB1 => load_step _ _ _ f1 f4 (by omega) _) ?_
       refine ql_r (r_move rfl) rfl ?_
       refine ql_r (r_fa (o' := 1) rfl fl61_1 rfl) rfl ?_
       refine ql_r (r_ld (id := 12) rfl rfl rfl sc3) rfl ?_
       refine ql_call rfl rfl cb68 rfl (fun w1 hb1 hs1 hB1 => load_step _ _ _ f2 f4 (by omega) _) ?_
       refine ql_r (r_assign rfl) rfl ?_
       refine ql_r (r_assign rfl) rfl ?_
       refine ql_nil (to_k0 (fun _ _ h => h) (hK20 _ _ _ _ _ ?_))
       clear hK20
       refine wp_seq' fun K21 hK21 => ?_
       refine wp_reg ?_
       refine ol_r (r_move rfl) rfl ?_
       refine ol_r (r_move rfl) rfl ?_
       refine ol_r (r_fa (o' := 2) rfl fl61_2 rfl) rfl ?_
       refine ol_store (id := 12) rfl rfl rfl rfl sz3 rfl rfl (by first | decide | exact Nat.zero_lt_succ _ | simp) ?_
       refine ol_r (r_fa (o' := 3) rfl fl61_3 rfl) rfl ?_
       refine ol_store (id := 12) rfl rfl rfl rfl sz3 rfl rfl (by first | decide | exact Nat.zero_lt_succ _ | simp) ?_
       refine ol_nil (to_k0 (fun _ _ h => h) (hK21 _ _ _ _ _ ?_))
       clear hK21
       refine wp_seq' fun K22 hK22 => ?_
       refine wp_reg ?_
       refine ol_r (r_fa (o' := 0) rfl fl61_0 rfl) rfl ?_
       refine ol_r (r_ld (id := 12) rfl rfl rfl sc3) rfl ?_
       refine ol_r (r_move rfl) rfl ?_
       refine ol_r (r_geq rfl rfl) rfl ?_
       refine ol_nil (to_k0 (fun _ _ h => h) (hK22 _ _ _ _ _ ?_))
       clear hK22
       first | refine wp_condD rfl (fun hc82 => ?_) (fun hc82 => ?_) | refine wp_condN rfl (fun hc82 => ?_) (fun hc82 => ?_) | refine wp_condNB rfl (fun hc82 => ?_) (fun hc82 => ?_) | refine wp_cond' rfl (fun hc82 => ?_) (fun hc82 => ?_)
       ·refine wp_reg ?_
        refine ol_r (r_move rfl) rfl ?_
        refine ol_r (r_lda (id := 12) (n := 5) rfl rfl rfl ag61) rfl ?_
        refine ol_bs1 85 rfl rfl rw64 rfl rfl rfl fun a85 => ?_
        refine ol_append1 (id := 8) (id2 := 85) rfl rfl rfl rfl rfl rw64 (by omega) rfl fun a86 c86 => ?_
        refine ol_r (r_assign rfl) rfl ?_
        refine ol_nil (to_k0 (fun _ _ h => h) (hK15 _ _ _ _ _ ?_))
        clear hK15
        refine wp_reg ?_
        refine ol_r (r_add rfl rfl (by omega)) rfl ?_
        refine ol_r (r_move rfl) rfl ?_
        refine ol_nil (to_k0 (fun _ _ h => h) (hK12 ((k + 1, _, _, _)) _ _ ?_ ?_ (sub_cons rfl (sub_cons rfl (sub_cons rfl (sub_cons rfl sub_nil)))) (sub_cons rfl (sub_cons rfl (sub_cons rfl (sub_cons rfl (sub_cons rfl sub_nil))))) (by exact (subH_row rfl (by first | (dsimp only; first | (rw [bet_row (by omega)]; rfl) | rfl; done) | (first | (rw [bet_row (by omega)]; rfl) | rfl; done) | (dsimp only; done)) subH_nil)) subH_nil))
        ·try dsimp only
         exact ⟨by omega, by rw [betL_put (by omega), List.length_append, ← hnn]; rfl⟩
        ·try dsimp only
         omega
       ·refine wp_skip' (to_k0 (fun _ _ h => h) (hK15 _ _ _ _ _ ?_))
        clear hK15
        refine wp_reg ?_
        refine ol_r (r_add rfl rfl (by omega)) rfl ?_
        refine ol_r (r_move rfl) rfl ?_
        refine ol_nil (to_k0 (fun _ _ h => h) (hK12 ((k + 1, _, _, _)) _ _ ?_ ?_ (sub_cons rfl (sub_cons rfl (sub_cons rfl (sub_cons rfl sub_nil)))) (sub_cons rfl (sub_cons rfl (sub_cons rfl (sub_cons rfl (sub_cons rfl sub_nil))))) (by exact (subH_row rfl (by first | (dsimp only; rw [betL_no (by omega)]; done) | (rw [betL_no (by omega)]; done) | (dsimp only; done)) subH_nil)) subH_nil))
        ·try dsimp only
         exact ⟨by omega, by rw [betL_no (by omega)]; exact hnn⟩
        ·try dsimp only
         omega
      ·refine wp_exit' (to_k0 (fun _ _ h => h) (hK10 _ _ _ _ _ ?_))
       clear hK10
       refine wp_seq' fun K23 hK23 => ?_
       refine wp_reg ?_
       refine ol_r (r_move rfl) rfl ?_
       refine ol_r (r_assign rfl) rfl ?_
       refine ol_r (r_assign rfl) rfl ?_
       refine ol_nil (to_k0 (fun _ _ h => h) (hK23 _ _ _ _ _ ?_))
       clear hK23
       refine hQ.ret (rvs2 (rv_t rfl) (rv_t rfl)) (fun _ _ h => h) fun w hb hs hB hkd => ?_
       refine ⟨?_, hb⟩
       subst hnn
       rw [betR_0 ⟨hd1, hd2⟩ (by omega), show (to - first + 1).toNat = k by omega]
       exact ⟨_, _, rfl, hs.kle [(8, 1001)] (kle_cons rfl (Ent.le_refl _) kle_nil) (by decide)⟩
theorem load_On (b m : Nat) (first fit fat d : Int) (D : List (Int × Int)) (w : World) (hk : Blk w.heap.size w b [(0, .int .i64 first), (1, .int .i64 fit), (2, .int .i64 fat), (3, .map (some m))]) (hm : Mp w.heap.size w m (mEnc (Value.int .i64) (Value.int .i64) D)) (hok : BkOk (mG (0 : Int) D) first fit fat) :
    Calls Try.prog 42 #[.pointer (some ⟨b, 0, none⟩), .int .i64 d] w fun e w' => e = .returned (.tuple #[encState.val (onR (mG (0 : Int) D) first fit fat d).1, .int .i64 (onR (mG (0 : Int) D) first fit fat d).2]) ∧ Below w.heap.size w w' := by
  refine enterQ (N := 22) (C := fun _ => True) (H := []) (B := w.heap.size) (args := [_, _]) Try.func42 rfl rfl rfl (Nat.le_refl _) (Sat.nil _ _) fun Q hQ => ?_
  refine wp_seq' fun K1 hK1 => ?_
  refine wp_reg ?_
  refine ol_alloc 4 z61 rfl fun b4 => ?_
  refine ol_r (r_assign rfl) rfl ?_
  refine ol_nil (to_k0 (fun _ _ h => h) (hK1 _ _ _ _ _ ?_))
  clear hK1
  refine wp_seq' fun K2 hK2 => ?_
  refine wp_reg ?_
  refine ol_r (r_move rfl) rfl ?_
  refine ol_r (r_move rfl) rfl ?_
  refine ol_r (r_move rfl) rfl ?_
  refine ol_call rfl rfl cb44 rfl (fun w1 hb1 hs1 hB1 => ?_)
  refine Calls.mono (load_Between b m first fit fat d d D _ (hk.at hb1 hB1) (hm.at hb1 hB1) hok) ?_
  rintro e w2 ⟨⟨a, c, rfl, hs2⟩, hb2⟩
  refine After.more rfl hb1 hs1 hB1 hb2 hs2 ?_
  clear hs2 hb2 hB1 hs1 hb1 w2 w1
  refine ol_r (r_move rfl) rfl ?_
  refine ol_r (r_extract rfl rfl) rfl ?_
  refine ol_r (r_extract rfl rfl) rfl ?_
  refine ol_r (r_assign rfl) rfl ?_
  refine ol_r (r_assign rfl) rfl ?_
  refine ol_nil (to_k0 (fun _ _ h => h) (hK2 _ _ _ _ _ ?_))
  clear hK2
  refine wp_seq' fun K3 hK3 => ?_
  refine wp_seq' fun K4 hK4 => ?_
  refine wp_reg ?_
  refine ol_r (r_move rfl) rfl ?_
  refine ol_r (r_neq rfl rfl) rfl ?_
  refine ol_nil (to_k0 (fun _ _ h => h) (hK4 _ _ _ _ _ ?_))
  clear hK4
  first | refine wp_condD rfl (fun hc16 => ?_) (fun hc16 => ?_) | refine wp_condN rfl (fun hc16 => ?_) (fun hc16 => ?_) | refine wp_condNB rfl (fun hc16 => ?_) (fun hc16 => ?_) | refine wp_cond' rfl (fun hc16 => ?_) (fun hc16 => ?_)
  ·refine wp_seq' fun K5 hK5 => ?_
   refine wp_reg ?_
   refine ol_r (r_build rfl (fun _ => bd61 _)) rfl ?_
   refine ol_r (r_move rfl) rfl ?_
   refine ol_store (id := 4) rfl rfl rfl rfl sz61 rfl rfl (by first | decide | exact Nat.zero_lt_succ _ | simp) ?_
   refine ol_r (r_assign rfl) rfl ?_
   refine ol_nil (to_k0 (fun _ _ h => h) (hK5 _ _ _ _ _ ?_))
   clear hK5
   refine hQ.ret (rvs2 (rv_c (id := 4) (n := 5) rfl rfl ag61 rfl) (rv_t rfl)) (fun _ _ h => h) fun w hb hs hB hkd => ?_
   exact ⟨by unfold onR; rw [if_pos hc16]; rfl, hb⟩
  ·refine wp_skip' (to_k0 (fun _ _ h => h) (hK3 _ _ _ _ _ ?_))
   clear hK3
   refine wp_seq' fun K6 hK6 => ?_
   refine wp_reg ?_
   refine ol_r (r_move rfl) rfl ?_
   have hpos := betR_pos (Decidable.not_not.1 hc16)
   refine ol_ixo (id := 1001) encState _ rfl rfl rfl rfl sl64 (by omega) rfl fun x20 hx20 => ?_
   try simp only [Int.toNat_natCast] at hx20
   try simp only [Int.toNat_natCast] at hx20
   refine ol_r (r_ldw rfl (fun w1 hb1 hs1 hB1 => ld_own (id := 1001) hs1 rfl rfl ty61 hx20)) rfl ?_
   refine ol_store (id := 4) rfl rfl rfl rfl sz61 rfl rfl (by first | decide | exact Nat.zero_lt_succ _ | simp) ?_
   refine ol_r (r_assign rfl) rfl ?_
   refine ol_nil (to_k0 (fun _ _ h => h) (hK6 _ _ _ _ _ ?_))
   clear hK6
   refine hQ.ret (rvs2 (rv_c (id := 4) (n := 5) rfl rfl ag61 rfl) (rv_t rfl)) (fun _ _ h => h) fun w hb hs hB hkd => ?_
   refine ⟨?_, hb⟩
   unfold onR onV
   rw [if_neg hc16, show (betR (mG (0 : Int) D) first fit fat d d).1[0]? = some x20 from hx20]; rfl
def ratP (num den : Int) : Int × Int := (num.tdiv (gcdI num den), den.tdiv (gcdI num den))
def ratioR (g : Int → Int) (first d : Int) : (Int × Int) × Bool × Int :=
  if ¬dayB first d = true then ((0, 0), false, 9) else if sumG g d 28 = 0 then ((0, 1), false, 0) else (ratP (4 * sumG g d 7) (sumG g d 28), true, 0)
theorem ratioR_9 {g : Int → Int} {first d : Int} (h : ¬dayB first d = true) : ratioR g first d = ((0, 0), false, 9) := if_pos h
theorem ratioR_1 {g : Int → Int} {first d : Int} (h : dayB first d = true) (h2 : sumG g d 28 = 0) : ratioR g first d = ((0, 1), false, 0) := by rw [ratioR, if_neg (by simp [h]), if_pos h2]
theorem ratioR_0 {g : Int → Int} {first d : Int} (h : dayB first d = true) (h2 : ¬sumG g d 28 = 0) : ratioR g first d = (ratP (4 * sumG g d 7) (sumG g d 28), true, 0) := by rw [ratioR, if_neg (by simp [h]), if_neg h2]
theorem load_Ratio (b m : Nat) (first fit fat d : Int) (D : List (Int × Int)) (w : World) (hk : Blk w.heap.size w b [(0, .int .i64 first), (1, .int .i64 fit), (2, .int .i64 fat), (3, .map (some m))]) (hm : Mp w.heap.size w m (mEnc (Value.int .i64) (Value.int .i64) D)) (hok : BkOk (mG (0 : Int) D) first fit fat) :
    Calls Try.prog 47 #[.pointer (some ⟨b, 0, none⟩), .int .i64 d] w fun e w' => e = .returned (.tuple #[.agg #[.int .i64 (ratioR (mG (0 : Int) D) first d).1.1, .int .i64 (ratioR (mG (0 : Int) D) first d).1.2], .bool (ratioR (mG (0 : Int) D) first d).2.1, .int .i64 (ratioR (mG (0 : Int) D) first d).2.2]) ∧ Below w.heap.size w w' := by
  have hf := hok.first
  refine enterQ (N := 51) (C := fun _ => True) (H := []) (B := w.heap.size) (args := [_, _]) Try.func47 rfl rfl rfl (Nat.le_refl _) (Sat.nil _ _) fun Q hQ => ?_
  refine wp_seq' fun K1 hK1 => ?_
  refine wp_reg ?_
  refine ol_alloc 4 z40 rfl fun b4 => ?_
  refine ol_r (r_assign rfl) rfl ?_
  refine ol_r (r_assign rfl) rfl ?_
  refine ol_nil (to_k0 (fun _ _ h => h) (hK1 _ _ _ _ _ ?_))
  clear hK1
  refine wp_seq' fun K2 hK2 => ?_
  refine wp_seq' fun K3 hK3 => ?_
  refine wp_reg ?_
  refine ol_r (r_move rfl) rfl ?_
  refine ol_r (r_move rfl) rfl ?_
  refine ol_call rfl rfl cb79 rfl (fun w1 hb1 hs1 hB1 => Calls.mono (load_has b m first fit fat d _ (hk.at hb1 hB1) hf) ?_)
  rintro e w2 ⟨rfl, hb2⟩
  refine After.below rfl hb1 hs1 hB1 hb2 ?_
  clear hb2 hB1 hs1 hb1 w2 w1
  refine ol_r (r_not rfl) rfl ?_
  refine ol_nil (to_k0 (fun _ _ h => h) (hK3 _ _ _ _ _ ?_))
  clear hK3
  first | refine wp_condD rfl (fun hc16 => ?_) (fun hc16 => ?_) | refine wp_condN rfl (fun hc16 => ?_) (fun hc16 => ?_) | refine wp_condNB rfl (fun hc16 => ?_) (fun hc16 => ?_) | refine wp_cond' rfl (fun hc16 => ?_) (fun hc16 => ?_)
  ·refine wp_seq' fun K4 hK4 => ?_
   refine wp_reg ?_
   refine ol_r (r_build rfl (fun _ => bd40 _)) rfl ?_
   refine ol_store (id := 4) rfl rfl rfl rfl sz40 rfl rfl (by first | decide | exact Nat.zero_lt_succ _ | simp) ?_
   refine ol_r (r_assign rfl) rfl ?_
   refine ol_r (r_assign rfl) rfl ?_
   refine ol_nil (to_k0 (fun _ _ h => h) (hK4 _ _ _ _ _ ?_))
   clear hK4
   refine hQ.ret (rvs3 (rv_c (id := 4) (n := 2) rfl rfl ag40 rfl) (rv_t rfl) (rv_t rfl)) (fun _ _ h => h) fun w hb hs hB hkd => ?_
   exact ⟨by rw [ratioR_9 (by simp_all)]; (try rfl), hb⟩
  ·refine wp_skip' (to_k0 (fun _ _ h => h) (hK2 _ _ _ _ _ ?_))
   clear hK2
   refine wp_seq' fun K5 hK5 => ?_
   refine wp_reg ?_
   refine ol_r (r_assign rfl) rfl ?_
   refine ol_r (r_assign rfl) rfl ?_
   refine ol_nil (to_k0 (fun _ _ h => h) (hK5 _ _ _ _ _ ?_))
   clear hK5
   refine wp_seq' fun K6 hK6 => ?_
   refine wp_seq' fun K7 hK7 => ?_
   refine wp_reg ?_
   refine ol_r (r_move rfl) rfl ?_
   refine ol_nil (to_k0 (fun _ _ h => h) (hK7 _ _ _ _ _ ?_))
   clear hK7
   refine wp_block' ?_
   apply wp_loopM (σ := Nat) (fun s => s ≤ 28) (fun s => [(18, .int .i64 s), (7, .int .i64 (sumG (mG (0 : Int) D) d (min s 7))), (8, .int .i64 (sumG (mG (0 : Int) D) d s))]) [(0, _), (1, _), (4, _), (5, _), (6, _)] (fun s => []) [(4, _)] (fun s => 28 - s) (0)
   ·try dsimp only
    exact Nat.zero_le _
   ·exact (sub_cons rfl (sub_cons rfl (sub_cons rfl sub_nil)))
   ·exact (sub_cons rfl (sub_cons rfl (sub_cons rfl (sub_cons rfl (sub_cons rfl sub_nil)))))
   ·exact subH_nil
   ·exact (subH_same rfl subH_nil)
   ·rintro k hk2
    have hdd : dayB first d = true := by simp_all
    have hdb := dayB_iff.1 hdd
    have f1 := sumG_bd (d := d) hok.load k
    have f2 := sumG_bd (d := d) hok.load (min k 7)
    have f3 := hok.load (d - k)
    intro K8 hK8
    refine wp_seq' fun K9 hK9 => ?_
    refine wp_reg ?_
    refine ol_r (r_lss rfl rfl) rfl ?_
    refine ol_nil (to_k0 (fun _ _ h => h) (hK9 _ _ _ _ _ ?_))
    clear hK9
    refine wp_seq' fun K10 hK10 => ?_
    first | refine wp_condD rfl (fun hc19 => ?_) (fun hc19 => ?_) | refine wp_condN rfl (fun hc19 => ?_) (fun hc19 => ?_) | refine wp_condNB rfl (fun hc19 => ?_) (fun hc19 => ?_) | refine wp_cond' rfl (fun hc19 => ?_) (fun hc19 => ?_)
    ·refine wp_skip' (to_k0 (fun _ _ h => h) (hK10 _ _ _ _ _ ?_))
     clear hK10
     refine wp_seq' fun K11 hK11 => ?_
     refine wp_block' ?_
     refine wp_seq' fun K12 hK12 => ?_
     refine wp_reg ?_
     refine ol_r (r_move rfl) rfl ?_
     refine ol_r (r_assign rfl) rfl ?_
     refine ol_nil (to_k0 (fun _ _ h => h) (hK12 _ _ _ _ _ ?_))
     clear hK12
     refine wp_seq' fun K13 hK13 => ?_
     refine wp_reg ?_
     refine ol_r (r_move rfl) rfl ?_
     refine ol_r (r_nilS rfl (rfl)) rfl ?_
     refine ol_r (r_fa (o' := 3) rfl fl94_3 rfl) rfl ?_
     refine ol_r (r_ldw rfl (fun w1 hb1 hs1 hB1 => Blk.loads (o := 3) hk hb1 sc92 rfl)) rfl ?_
     refine ol_r (r_move rfl) rfl ?_
     refine ol_r (r_move rfl) rfl ?_
     refine ol_r (r_sub rfl rfl (by omega)) rfl ?_
     refine ol_r (r_lookupR (K := Value.int .i64) (V := Value.int .i64) (z := (0 : Int)) hm rfl rfl mt92) rfl ?_
     refine ol_r (r_assign rfl) rfl ?_
     refine ol_nil (to_k0 (fun _ _ h => h) (hK13 _ _ _ _ _ ?_))
     clear hK13
     refine wp_seq' fun K14 hK14 => ?_
     refine wp_reg ?_
     refine ol_r (r_move rfl) rfl ?_
     refine ol_r (r_move rfl) rfl ?_
     refine ol_r (r_add rfl rfl (by omega)) rfl ?_
     refine ol_r (r_assign rfl) rfl ?_
     refine ol_nil (to_k0 (fun _ _ h => h) (hK14 _ _ _ _ _ ?_))
     clear hK14
     refine wp_seq' fun K15 hK15 => ?_
     refine wp_reg ?_
     refine ol_r (r_move rfl) rfl ?_
     refine ol_r (r_lss rfl rfl) rfl ?_
     refine ol_nil (to_k0 (fun _ _ h => h) (hK15 _ _ _ _ _ ?_))
     clear hK15
     first | refine wp_condD rfl (fun hc33 => ?_) (fun hc33 => ?_) | refine wp_condN rfl (fun hc33 => ?_) (fun hc33 => ?_) | refine wp_condNB rfl (fun hc33 => ?_) (fun hc33 => ?_) | refine wp_cond' rfl (fun hc33 => ?_) (fun hc33 => ?_)
     ·refine wp_reg ?_
      refine ol_r (r_move rfl) rfl ?_
      refine ol_r (r_move rfl) rfl ?_
      refine ol_r (r_add rfl rfl (by omega)) rfl ?_
      refine ol_r (r_assign rfl) rfl ?_
      refine ol_nil (to_k0 (fun _ _ h => h) (hK11 _ _ _ _ _ ?_))
      clear hK11
      refine wp_reg ?_
      refine ol_r (r_add rfl rfl (by omega)) rfl ?_
      refine ol_r (r_move rfl) rfl ?_
      refine ol_nil (to_k0 (fun _ _ h => h) (hK8 ((k + 1)) _ _ ?_ ?_ (sub_cons (by first | rfl | ((rw [show min (k + 1) 7 = min k 7 + 1 by omega, sumG, show min k 7 = k by omega]; try rfl))) (sub_cons (by first | rfl | ((rw [show min (k + 1) 7 = min k 7 + 1 by omega, sumG, show min k 7 = k by omega]; try rfl))) (sub_cons (by first | rfl | ((rw [show min (k + 1) 7 = min k 7 + 1 by omega, sumG, show min k 7 = k by omega]; try rfl))) sub_nil))) (sub_cons rfl (sub_cons rfl (sub_cons rfl (sub_cons rfl (sub_cons rfl sub_nil))))) (by exact subH_nil) (subH_same rfl subH_nil)))
      ·try dsimp only
       omega
      ·try dsimp only
       omega
     ·refine wp_skip' (to_k0 (fun _ _ h => h) (hK11 _ _ _ _ _ ?_))
      clear hK11
      refine wp_reg ?_
      refine ol_r (r_add rfl rfl (by omega)) rfl ?_
      refine ol_r (r_move rfl) rfl ?_
      refine ol_nil (to_k0 (fun _ _ h => h) (hK8 ((k + 1)) _ _ ?_ ?_ (sub_cons (by first | rfl | ((rw [show min (k + 1) 7 = min k 7 by omega]; try rfl))) (sub_cons (by first | rfl | ((rw [show min (k + 1) 7 = min k 7 by omega]; try rfl))) (sub_cons (by first | rfl | ((rw [show min (k + 1) 7 = min k 7 by omega]; try rfl))) sub_nil))) (sub_cons rfl (sub_cons rfl (sub_cons rfl (sub_cons rfl (sub_cons rfl sub_nil))))) (by exact subH_nil) (subH_same rfl subH_nil)))
      ·try dsimp only
       omega
      ·try dsimp only
       omega
    ·refine wp_exit' (to_k0 (fun _ _ h => h) (hK6 _ _ _ _ _ ?_))
     clear hK6
     refine wp_seq' fun K16 hK16 => ?_
     refine wp_reg ?_
     obtain rfl : k = 28 := by omega
     refine ol_r (r_build rfl (fun _ => bd40_0_1 _ _ _)) rfl ?_
     refine ol_alloc 11 z40 rfl fun b11 => ?_
     refine ol_store (id := 11) rfl rfl rfl rfl sz40 rfl rfl (by first | decide | exact Nat.zero_lt_succ _ | simp) ?_
     refine ol_nil (to_k0 (fun _ _ h => h) (hK16 _ _ _ _ _ ?_))
     clear hK16
     refine wp_seq' fun K17 hK17 => ?_
     refine wp_seq' fun K18 hK18 => ?_
     refine wp_reg ?_
     refine ol_r (r_move rfl) rfl ?_
     refine ol_r (r_eql rfl rfl) rfl ?_
     refine ol_nil (to_k0 (fun _ _ h => h) (hK18 _ _ _ _ _ ?_))
     clear hK18
     first | refine wp_condD rfl (fun hc40 => ?_) (fun hc40 => ?_) | refine wp_condN rfl (fun hc40 => ?_) (fun hc40 => ?_) | refine wp_condNB rfl (fun hc40 => ?_) (fun hc40 => ?_) | refine wp_cond' rfl (fun hc40 => ?_) (fun hc40 => ?_)
     ·refine wp_seq' fun K19 hK19 => ?_
      refine wp_reg ?_
      refine ol_r (r_lda (id := 11) (n := 2) rfl rfl rfl ag40) rfl ?_
      refine ol_store (id := 4) rfl rfl rfl rfl sz40 rfl rfl (by first | decide | exact Nat.zero_lt_succ _ | simp) ?_
      refine ol_r (r_assign rfl) rfl ?_
      refine ol_r (r_assign rfl) rfl ?_
      refine ol_nil (to_k0 (fun _ _ h => h) (hK19 _ _ _ _ _ ?_))
      clear hK19
      refine hQ.ret (rvs3 (rv_c (id := 4) (n := 2) rfl rfl ag40 rfl) (rv_t rfl) (rv_t rfl)) (fun _ _ h => h) fun w hb hs hB hkd => ?_
      exact ⟨by rw [ratioR_1 hdd (by omega)]; (try rfl), hb⟩
     ·refine wp_skip' (to_k0 (fun _ _ h => h) (hK17 _ _ _ _ _ ?_))
      clear hK17
      refine wp_seq' fun K20 hK20 => ?_
      refine wp_reg ?_
      refine ol_r (r_move rfl) rfl ?_
      refine ol_r (r_mul rfl rfl (by omega)) rfl ?_
      refine ol_r (r_move rfl) rfl ?_
      refine ol_call rfl rfl cb72 rfl (fun w1 hb1 hs1 hB1 => Calls.mono (load_ratio _ _ _ (by omega) (by omega)) ?_)
      rintro e w2 ⟨rfl, hb2⟩
      refine After.below rfl hb1 hs1 hB1 hb2 ?_
      clear hb2 hB1 hs1 hb1 w2 w1
      refine ol_alloc 12 z40 rfl fun b12 => ?_
      refine ol_store (id := 12) rfl rfl rfl rfl sz40 rfl rfl (by first | decide | exact Nat.zero_lt_succ _ | simp) ?_
      refine ol_nil (to_k0 (fun _ _ h => h) (hK20 _ _ _ _ _ ?_))
      clear hK20
      refine wp_seq' fun K21 hK21 => ?_
      refine wp_seq' fun K22 hK22 => ?_
      refine wp_reg ?_
      refine ol_r (r_lda (id := 12) (n := 2) rfl rfl rfl ag40) rfl ?_
      refine ol_r (r_build rfl (fun _ => bd40 _)) rfl ?_
      refine ol_r (r_eqs rfl rfl (by kernel_rfl) (fun w => run_eqs (by kernel_rfl) (by kernel_rfl) w)) rfl ?_
      refine ol_nil (to_k0 (fun _ _ h => h) (hK22 _ _ _ _ _ ?_))
      clear hK22
      first | refine wp_condD rfl (fun hc48 => ?_) (fun hc48 => ?_) | refine wp_condN rfl (fun hc48 => ?_) (fun hc48 => ?_) | refine wp_condNB rfl (fun hc48 => ?_) (fun hc48 => ?_) | refine wp_cond' rfl (fun hc48 => ?_) (fun hc48 => ?_)
      ·exfalso
       have hp := ratV_pos (num := 4 * sumG (mG (0 : Int) D) d (min 28 7)) (den := sumG (mG (0 : Int) D) d 28) (by omega)
       simp only [eqs, eqV, Bool.and_eq_true, decide_eq_true_eq] at hc48
       omega
      ·refine wp_skip' (to_k0 (fun _ _ h => h) (hK21 _ _ _ _ _ ?_))
       clear hK21
       refine wp_seq' fun K23 hK23 => ?_
       refine wp_reg ?_
       refine ol_r (r_lda (id := 12) (n := 2) rfl rfl rfl ag40) rfl ?_
       refine ol_store (id := 4) rfl rfl rfl rfl sz40 rfl rfl (by first | decide | exact Nat.zero_lt_succ _ | simp) ?_
       refine ol_r (r_assign rfl) rfl ?_
       refine ol_r (r_assign rfl) rfl ?_
       refine ol_nil (to_k0 (fun _ _ h => h) (hK23 _ _ _ _ _ ?_))
       clear hK23
       refine hQ.ret (rvs3 (rv_c (id := 4) (n := 2) rfl rfl ag40 rfl) (rv_t rfl) (rv_t rfl)) (fun _ _ h => h) fun w hb hs hB hkd => ?_
       exact ⟨by rw [ratioR_0 hdd (by omega)]; rfl, hb⟩
end Go.Proofs.Ytamlldedmhkobaa
