/-
  Merge and Beats: program and reference.
-/
import Derived.Test.YtafkojlccknicaaMerge2
namespace Go.Proofs.Ytafkojlccknicaa
open Go Go.RowKit Hx
set_option linter.unusedVariables false
set_option linter.unusedSimpArgs false
set_option maxRecDepth 8000
theorem ordI_len (xs : List Int) : (ordI xs).length ≤ xs.length := by
  have h := compact_len (sortI xs)
  have h2 : (sortI xs).length = xs.length := List.length_mergeSort _
  show (Go.Lib.compact (sortI xs)).length ≤ _
  omega
theorem eff_ordered (B id : Nat) (a : Option Addr) (n c : Nat) (xs : List Int) (T : TypeId) (H : HL) (w : World) (hB : B ≤ w.heap.size) (hs : Sat B w H) (hr : Hx.look H id = some (.row a n c (encI.enc xs) T 1)) (hn : 0 < n) (hsz : n ≤ 4398046511104) :
    Calls Try.prog 94 #[.slice a n c, .func (.func 96) #[] #[]] w fun e w' => e = .returned (.slice a (ordI xs).length c) ∧ Below B w w' ∧ Sat B w' ((id, .row a (ordI xs).length c (encI.enc (ordI xs)) T 1) :: H) ∧ B ≤ w'.heap.size ∧ Kd (fun _ => False) w w' := by
  have hle := ordI_len xs
  have hxl : (sortI xs).length = xs.length := List.length_mergeSort _
  refine enterQ (N := 10) (C := fun _ => False) (H := H) (B := B) (args := [_, _]) Try.func94 rfl rfl rfl (hB) (hs) fun Q hQ => ?_
  refine wp_seq' fun K1 hK1 => ?_
  refine wp_reg ?_
  refine ol_r (r_assign rfl) rfl ?_
  refine ol_nil (to_k0 (fun _ _ h => h) (hK1 _ _ _ _ _ ?_))
  clear hK1
  refine wp_seq' fun K2 hK2 => ?_
  refine wp_reg ?_
  refine ol_r (r_move rfl) rfl ?_
  refine ol_r (r_move rfl) rfl ?_
  refine ol_call rfl rfl cb129 rfl (fun w1 hb1 hs1 hB1 => ?_)
  refine Calls.mono (sortF_ints B id _ _ _ xs T _ _ hB1 hs1 hr hn (by omega)) ?_
  rintro e w2 ⟨rfl, hbw, hs2, hB2, hkd2⟩
  refine After.sat rfl hb1 hbw hs2 hB2 (hkd2.imp (fun _ h => h.elim)) ?_
  clear hkd2 hB2 hs2 hbw hB1 hs1 hb1 w2 w1
  refine ol_nil (to_k0 (fun _ _ h => h) (hK2 _ _ _ _ _ ?_))
  clear hK2
  refine wp_seq' fun K3 hK3 => ?_
  refine wp_reg ?_
  refine ol_r (r_move rfl) rfl ?_
  refine ol_call rfl rfl cb130 rfl (fun w1 hb1 hs1 hB1 => ?_)
  refine Calls.mono (compact_ints B id _ _ _ (sortI xs) T _ _ hB1 hs1 (look_cons_eq _ _ _) hn (by omega)) ?_
  rintro e w2 ⟨rfl, hbw, hs2, hB2, hkd2⟩
  refine After.sat rfl hb1 hbw hs2 hB2 (hkd2.imp (fun _ h => h.elim)) ?_
  clear hkd2 hB2 hs2 hbw hB1 hs1 hb1 w2 w1
  refine ol_r (r_assign rfl) rfl ?_
  refine ol_nil (to_k0 (fun _ _ h => h) (hK3 _ _ _ _ _ ?_))
  clear hK3
  refine hQ.ret (rvs1 (rv_t rfl)) (fun _ _ h => h) fun w hb hs hB hkd => ?_
  exact ⟨rfl, hb, hs.shadow, hB, hkd⟩
def mgK (a b : List BestR) (k : Nat) : List BestR := ((ordI (szs a ++ szs b)).take k).map fun s => pkV (lkB a s) (lkB b s)
theorem mgK_take {a b : List BestR} {k : Nat} {s : Int} (h : (ordI (szs a ++ szs b))[k]? = some s) : mgK a b (k + 1) = mgK a b k ++ [pkV (lkB a s) (lkB b s)] := by
  unfold mgK; rw [take_succ_get h, List.map_append]; rfl
theorem pkV_if (x y : Option BestR) : pkV x y = if (!x.isSome || (y.isSome && lessB (x.getD noB) (y.getD noB))) = true then y.getD noB else x.getD noB := by
  cases x <;> cases y <;> simp [pkV, pkO, lessB]
theorem orR_two (x y : Int) : orR [x, y] = if x ≠ 0 then x else y := by
  by_cases h : x = 0 <;> by_cases h1 : y = 0 <;> simp [orR, h, h1]
theorem orR2 {x y : Int} (h : ¬orR [x, y] ≠ 0) : x = 0 ∧ y = 0 := by
  have h := Decidable.not_not.1 h
  rw [orR_two] at h
  by_cases h1 : x = 0
  · rw [if_neg (fun h2 => h2 h1)] at h; exact ⟨h1, h⟩
  · rw [if_pos h1] at h; exact absurd h h1
theorem mergeV_e {a b : List BestR} (h : orR [chkC a, chkC b] ≠ 0) : mergeV a b = ([], orR [chkC a, chkC b]) := by
  rw [orR_two] at h ⊢
  unfold mergeV
  by_cases h1 : chkC a = 0
  · rw [if_neg (fun h => h h1)] at h
    simp [h1, h]
  · simp [h1]
theorem beatsV_e {a b : List BestR} (h : orR [chkC a, chkC b] ≠ 0) : beatsV a b = ([], orR [chkC a, chkC b]) := by
  rw [orR_two] at h ⊢
  unfold beatsV
  by_cases h1 : chkC a = 0
  · rw [if_neg (fun h => h h1)] at h
    simp [h1, h]
  · simp [h1]
theorem beatsV_of {a b : List BestR} (ha : CurveOk a) (hb : CurveOk b) : beatsV a b = (btsL a b, 0) := by
  unfold beatsV
  rw [if_neg (fun h => h ha.chk), if_neg (fun h => h hb.chk)]
theorem eff_Merge (a b : Option Addr) (n m c d : Nat) (xs ys : List BestR) (w : World) (hl : Rd encBest w.heap.size w a n c xs) (hm : Rd encBest w.heap.size w b m d ys) (hn : n ≤ 4398046511104) (hn2 : m ≤ 4398046511104) :
    Calls Try.prog 48 #[.slice a n c, .slice b m d] w fun e w' => ∃ o k kc, e = .returned (.tuple #[.slice o k kc, .int .i64 (mergeV xs ys).2]) ∧ Fresh encBest 24 w w' o k kc (mergeV xs ys).1 := by
  obtain rfl := hl.len
  obtain rfl := hm.len
  refine enterQ (N := 66) (C := fun _ => True) (H := []) (B := w.heap.size) (args := [_, _]) Try.func48 rfl rfl rfl (Nat.le_refl _) (Sat.nil _ _) fun Q hQ => ?_
  refine wp_seq' fun K1 hK1 => ?_
  refine wp_reg ?_
  refine ol_r (r_assign rfl) rfl ?_
  refine ol_r (r_assign rfl) rfl ?_
  refine ol_nil (to_k0 (fun _ _ h => h) (hK1 _ _ _ _ _ ?_))
  clear hK1
  refine wp_seq' fun K2 hK2 => ?_
  refine wp_seq' fun K3 hK3 => ?_
  refine wp_reg ?_
  refine ol_r (r_move rfl) rfl ?_
  refine ol_call rfl rfl cb52 rfl (fun w1 hb1 hs1 hB1 => Calls.mono (eff_CheckCurve _ _ _ xs _ (hl.at hb1 hB1) hn) ?_)
  rintro e w2 ⟨rfl, hb2⟩
  refine After.below rfl hb1 hs1 hB1 hb2 ?_
  clear hb2 hB1 hs1 hb1 w2 w1
  refine ol_r (r_move rfl) rfl ?_
  refine ol_call rfl rfl cb52 rfl (fun w1 hb1 hs1 hB1 => Calls.mono (eff_CheckCurve _ _ _ ys _ (hm.at hb1 hB1) hn2) ?_)
  rintro e w2 ⟨rfl, hb2⟩
  refine After.below rfl hb1 hs1 hB1 hb2 ?_
  clear hb2 hB1 hs1 hb1 w2 w1
  refine ol_bsN 18 rfl rw143 rfl rfl (fun _ => by kernel_rfl) rfl fun a18 => ?_
  refine ol_call rfl rfl cb74 rfl (fun w1 hb1 hs1 hB1 => Calls.mono (cmp_Or _ _ _ [chkC xs, chkC ys] _ (Sat.rd hs1 (E := encI) (id := 18) rfl rfl)) ?_)
  rintro e w2 ⟨rfl, hb2⟩
  refine After.below rfl hb1 hs1 hB1 hb2 ?_
  clear hb2 hB1 hs1 hb1 w2 w1
  refine ol_r (r_assign rfl) rfl ?_
  refine ol_nil (to_k0 (fun _ _ h => h) (hK3 _ _ _ _ _ ?_))
  clear hK3
  refine wp_seq' fun K4 hK4 => ?_
  refine wp_reg ?_
  refine ol_r (r_move rfl) rfl ?_
  refine ol_r (r_neq rfl rfl) rfl ?_
  refine ol_nil (to_k0 (fun _ _ h => h) (hK4 _ _ _ _ _ ?_))
  clear hK4
  first | refine wp_condD rfl (fun hc21 => ?_) (fun hc21 => ?_) | refine wp_condN rfl (fun hc21 => ?_) (fun hc21 => ?_) | refine wp_condNB rfl (fun hc21 => ?_) (fun hc21 => ?_) | refine wp_cond' rfl (fun hc21 => ?_) (fun hc21 => ?_)
  ·refine wp_seq' fun K5 hK5 => ?_
   refine wp_reg ?_
   refine ol_r (r_move rfl) rfl ?_
   refine ol_r (r_assign rfl) rfl ?_
   refine ol_r (r_assign rfl) rfl ?_
   refine ol_nil (to_k0 (fun _ _ h => h) (hK5 _ _ _ _ _ ?_))
   clear hK5
   refine hQ.ret (rvs2 (rv_t rfl) (rv_t rfl)) (fun _ _ h => h) fun w hb hs hB hkd => ?_
   exact ⟨none, 0, 0, by rw [mergeV_e hc21], by rw [mergeV_e hc21]; exact Fresh.nil hb⟩
  ·refine wp_skip' (to_k0 (fun _ _ h => h) (hK2 _ _ _ _ _ ?_))
   clear hK2
   refine wp_seq' fun K6 hK6 => ?_
   refine wp_reg ?_
   refine ol_nilrow 7 24 4 ?_
   refine ol_r (r_assign rfl) rfl ?_
   refine ol_nil (to_k0 (fun _ _ h => h) (hK6 _ _ _ _ _ ?_))
   clear hK6
   refine wp_seq' fun K7 hK7 => ?_
   refine wp_seq' fun K8 hK8 => ?_
   refine wp_reg ?_
   have hX := chkC_ok (orR2 hc21).1
   have hY := chkC_ok (orR2 hc21).2
   have hXl := hX.len
   have hYl := hY.len
   have hsx : (szs xs).length = xs.length := List.length_map _
   have hsy : (szs ys).length = ys.length := List.length_map _
   refine ol_r (r_move rfl) rfl ?_
   refine ol_call rfl rfl cb95 rfl (fun w1 hb1 hs1 hB1 => Calls.mono (eff_sizesOf _ _ _ xs _ (hl.at hb1 hB1) hn) ?_)
   rintro e w2 ⟨a24, n24, c24, rfl, hf24⟩
   refine After.fresh (id := 24) rfl hb1 hs1 hB1 hf24 ?_
   have hl24 := hf24.len; clear hf24 hB1 hs1 hb1 w2 w1
   refine ol_r (r_move rfl) rfl ?_
   refine ol_call rfl rfl cb95 rfl (fun w1 hb1 hs1 hB1 => Calls.mono (eff_sizesOf _ _ _ ys _ (hm.at hb1 hB1) hn2) ?_)
   rintro e w2 ⟨a26, n26, c26, rfl, hf26⟩
   refine After.fresh (id := 26) rfl hb1 hs1 hB1 hf26 ?_
   have hl26 := hf26.len; clear hf26 hB1 hs1 hb1 w2 w1
   refine ol_appendO (id := 24) (id2 := 26) encI rfl rfl rfl rfl rfl rw22 (by omega) rfl fun a27 c27 => ?_
   refine ol_call rfl rfl cb94 rfl (fun w1 hb1 hs1 hB1 => ?_)
   refine Calls.mono (eff_ordered _ 24 _ _ _ (szs xs ++ szs ys) _ _ _ hB1 hs1 rfl (by omega) (by omega)) ?_
   rintro e w2 ⟨rfl, hbw, hs2, hB2, hkd2⟩
   refine After.sat rfl hb1 hbw hs2 hB2 (hkd2.imp (fun _ h => h.elim)) ?_
   clear hkd2 hB2 hs2 hbw hB1 hs1 hb1 w2 w1
   have hol := ordI_len (szs xs ++ szs ys)
   rw [List.length_append] at hol
   refine ol_r (r_len rfl sl22) rfl ?_
   refine ol_r (r_move rfl) rfl ?_
   refine ol_nil (to_k0 (fun _ _ h => h) (hK8 _ _ _ _ _ ?_))
   clear hK8
   refine wp_block' ?_
   apply wp_loopM (σ := Nat × Option Addr × Nat) (fun s => s.1 ≤ (ordI (szs xs ++ szs ys)).length) (fun s => [(30, .int .i64 s.1), (7, .slice s.2.1 s.1 s.2.2)]) [(0, _), (1, _), (4, _), (5, _), (28, _), (29, _)] (fun s => [(7, .row s.2.1 s.1 s.2.2 (encBest.enc (mgK xs ys s.1)) 24 4)]) [(18, _), (24, _), (26, _)] (fun s => (ordI (szs xs ++ szs ys)).length - s.1) ((0, none, 0))
   ·try dsimp only
    exact Nat.zero_le _
   ·exact (sub_cons rfl (sub_cons rfl sub_nil))
   ·exact (sub_cons rfl (sub_cons rfl (sub_cons rfl (sub_cons rfl (sub_cons rfl (sub_cons rfl sub_nil))))))
   ·exact (subH_row rfl (by first | (dsimp only; rfl; done) | (rfl; done) | (dsimp only; done)) subH_nil)
   ·exact (subH_same rfl (subH_same rfl (subH_same rfl subH_nil)))
   ·rintro ⟨i, oa, oc⟩ hi
    dsimp only at hi ⊢
    intro K9 hK9
    refine wp_seq' fun K10 hK10 => ?_
    refine wp_reg ?_
    refine ol_r (r_lss rfl rfl) rfl ?_
    refine ol_nil (to_k0 (fun _ _ h => h) (hK10 _ _ _ _ _ ?_))
    clear hK10
    refine wp_seq' fun K11 hK11 => ?_
    first | refine wp_condD rfl (fun hc31 => ?_) (fun hc31 => ?_) | refine wp_condN rfl (fun hc31 => ?_) (fun hc31 => ?_) | refine wp_condNB rfl (fun hc31 => ?_) (fun hc31 => ?_) | refine wp_cond' rfl (fun hc31 => ?_) (fun hc31 => ?_)
    ·refine wp_skip' (to_k0 (fun _ _ h => h) (hK11 _ _ _ _ _ ?_))
     clear hK11
     refine wp_seq' fun K12 hK12 => ?_
     refine wp_block' ?_
     refine wp_seq' fun K13 hK13 => ?_
     refine wp_reg ?_
     refine ol_ixo (id := 24) encI _ rfl rfl rfl rfl sl22 (by omega) rfl fun x32 hx32 => ?_
     try simp only [Int.toNat_natCast] at hx32
     try simp only [Int.toNat_natCast] at hx32
     refine ol_r (r_ldw rfl (fun w1 hb1 hs1 hB1 => show Loads _ _ _ _ (.int .i64 x32) from ld_own (id := 24) hs1 rfl rfl ty3 hx32)) rfl ?_
     refine ol_r (r_assign rfl) rfl ?_
     refine ol_nil (to_k0 (fun _ _ h => h) (hK13 _ _ _ _ _ ?_))
     clear hK13
     refine wp_seq' fun K14 hK14 => ?_
     refine wp_reg ?_
     refine ol_r (r_move rfl) rfl ?_
     refine ol_r (r_move rfl) rfl ?_
     refine ol_call rfl rfl cb97 rfl (fun w1 hb1 hs1 hB1 => Calls.mono (eff_sized _ _ _ xs _ _ (hl.at hb1 hB1) hn hX.up) ?_)
     rintro e w2 ⟨rfl, hb2⟩
     refine After.below rfl hb1 hs1 hB1 hb2 ?_
     clear hb2 hB1 hs1 hb1 w2 w1
     refine ol_r (r_move rfl) rfl ?_
     refine ol_r (r_extract rfl rfl) rfl ?_
     refine ol_r (r_extract rfl rfl) rfl ?_
     refine ol_alloc 10 z24 rfl fun b10 => ?_
     refine ol_store (id := 10) rfl rfl rfl rfl sz24 rfl rfl (by first | decide | exact Nat.zero_lt_succ _ | simp) ?_
     refine ol_r (r_assign rfl) rfl ?_
     refine ol_nil (to_k0 (fun _ _ h => h) (hK14 _ _ _ _ _ ?_))
     clear hK14
     refine wp_seq' fun K15 hK15 => ?_
     refine wp_reg ?_
     refine ol_r (r_move rfl) rfl ?_
     refine ol_r (r_move rfl) rfl ?_
     refine ol_call rfl rfl cb97 rfl (fun w1 hb1 hs1 hB1 => Calls.mono (eff_sized _ _ _ ys _ _ (hm.at hb1 hB1) hn2 hY.up) ?_)
     rintro e w2 ⟨rfl, hb2⟩
     refine After.below rfl hb1 hs1 hB1 hb2 ?_
     clear hb2 hB1 hs1 hb1 w2 w1
     refine ol_r (r_move rfl) rfl ?_
     refine ol_r (r_extract rfl rfl) rfl ?_
     refine ol_r (r_extract rfl rfl) rfl ?_
     refine ol_alloc 12 z24 rfl fun b12 => ?_
     refine ol_store (id := 12) rfl rfl rfl rfl sz24 rfl rfl (by first | decide | exact Nat.zero_lt_succ _ | simp) ?_
     refine ol_r (r_assign rfl) rfl ?_
     refine ol_nil (to_k0 (fun _ _ h => h) (hK15 _ _ _ _ _ ?_))
     clear hK15
     refine wp_seq' fun K16 hK16 => ?_
     refine wp_seq' fun K17 hK17 => ?_
     refine wp_reg ?_
     refine ol_r (r_move rfl) rfl ?_
     refine ol_r (r_not rfl) rfl ?_
     refine ol_r (r_move rfl) rfl ?_
     refine ol_split (d := 48) rfl (fun hs48 => ?_) (fun hs48 => ?_)
     ·have phs48 := hs48; try simp only [decide_eq_true_eq, decide_eq_false_iff_not, Bool.not_eq_true', Bool.not_eq_false', Bool.not_true, Bool.not_false] at phs48
      refine ol_s rfl rfl hs48 rfl ?_
      refine ol_s rfl rfl hs48 rfl ?_
      refine ol_u rfl rfl rfl ?_
      refine ol_u rfl rfl rfl ?_
      refine ol_u rfl rfl rfl ?_
      refine ol_s rfl rfl hs48 rfl ?_
      refine ol_r (r_pickT rfl hs48 rfl) rfl ?_
      refine ol_nil (to_k0 (fun _ _ h => h) (hK17 _ _ _ _ _ ?_))
      clear hK17
      refine wp_condT rfl ?_
      refine wp_reg ?_
      refine ol_r (r_lda (id := 12) (n := 4) rfl rfl rfl ag24) rfl ?_
      refine ol_store (id := 10) rfl rfl rfl rfl sz24 rfl rfl (by first | decide | exact Nat.zero_lt_succ _ | simp) ?_
      refine ol_nil (to_k0 (fun _ _ h => h) (hK16 _ _ _ _ _ ?_))
      clear hK16
      refine wp_reg ?_
      first
        | (have hpk : pkV (lkB xs x32) (lkB ys x32) = (lkB ys x32).getD noB := by rw [pkV_if]; simp_all
           skip)
        | (have hpk : pkV (lkB xs x32) (lkB ys x32) = (lkB xs x32).getD noB := by rw [pkV_if]; simp_all
           skip)
      refine ol_r (r_move rfl) rfl ?_
      refine ol_r (r_lda (id := 10) (n := 4) rfl rfl rfl ag24) rfl ?_
      refine ol_bs1 59 rfl rfl rw38 rfl rfl rfl fun a59 => ?_
      refine ol_append1 (id := 7) (id2 := 59) rfl rfl rfl rfl rfl rw38 (by omega) rfl fun a60 c60 => ?_
      refine ol_r (r_assign rfl) rfl ?_
      refine ol_nil (to_k0 (fun _ _ h => h) (hK12 _ _ _ _ _ ?_))
      clear hK12
      refine wp_reg ?_
      refine ol_r (r_add rfl rfl (by omega)) rfl ?_
      refine ol_r (r_move rfl) rfl ?_
      refine ol_nil (to_k0 (fun _ _ h => h) (hK9 ((i + 1, _, _)) _ _ ?_ ?_ (sub_cons rfl (sub_cons rfl sub_nil)) (sub_cons rfl (sub_cons rfl (sub_cons rfl (sub_cons rfl (sub_cons rfl (sub_cons rfl sub_nil)))))) (by exact (subH_row rfl (by first | (dsimp only; rw [mgK_take hx32, encBest_snoc, hpk]; rfl; done) | (rw [mgK_take hx32, encBest_snoc, hpk]; rfl; done) | (dsimp only; done)) subH_nil)) (subH_same rfl (subH_same rfl (subH_same rfl subH_nil)))))
      ·try dsimp only
       omega
      ·try dsimp only
       omega
     ·have phs48 := hs48; try simp only [decide_eq_true_eq, decide_eq_false_iff_not, Bool.not_eq_true', Bool.not_eq_false', Bool.not_true, Bool.not_false] at phs48
      refine ol_g rfl rfl hs48 ?_
      refine ol_r (r_move rfl) rfl ?_
      refine ol_g rfl rfl hs48 ?_
      refine ol_r (r_move rfl) rfl ?_
      refine ol_split (d := 50) rfl (fun hs50 => ?_) (fun hs50 => ?_)
      ·have phs50 := hs50; try simp only [decide_eq_true_eq, decide_eq_false_iff_not, Bool.not_eq_true', Bool.not_eq_false', Bool.not_true, Bool.not_false] at phs50
       refine ol_g rfl rfl hs50 ?_
       refine ol_r (r_lda (id := 12) (n := 4) rfl rfl rfl ag24) rfl ?_
       refine ol_g rfl rfl hs50 ?_
       refine ol_r (r_lda (id := 10) (n := 4) rfl rfl rfl ag24) rfl ?_
       refine ol_g rfl rfl hs50 ?_
       refine ol_call rfl rfl cb98 rfl (fun w1 hb1 hs1 hB1 => Calls.mono (eff_beats ((lkB ys x32).getD noB) ((lkB xs x32).getD noB) _) ?_)
       rintro e w2 ⟨rfl, hb2⟩
       refine After.below rfl hb1 hs1 hB1 hb2 ?_
       clear hb2 hB1 hs1 hb1 w2 w1
       refine ol_g rfl rfl hs48 ?_
       refine ol_r (r_pickT rfl hs50 rfl) rfl ?_
       refine ol_r (r_pickF rfl hs48 rfl) rfl ?_
       refine ol_nil (to_k0 (fun _ _ h => h) (hK17 _ _ _ _ _ ?_))
       clear hK17
       first | refine wp_condD rfl (fun hc55 => ?_) (fun hc55 => ?_) | refine wp_condN rfl (fun hc55 => ?_) (fun hc55 => ?_) | refine wp_condNB rfl (fun hc55 => ?_) (fun hc55 => ?_) | refine wp_cond' rfl (fun hc55 => ?_) (fun hc55 => ?_)
       ·refine wp_reg ?_
        refine ol_r (r_lda (id := 12) (n := 4) rfl rfl rfl ag24) rfl ?_
        refine ol_store (id := 10) rfl rfl rfl rfl sz24 rfl rfl (by first | decide | exact Nat.zero_lt_succ _ | simp) ?_
        refine ol_nil (to_k0 (fun _ _ h => h) (hK16 _ _ _ _ _ ?_))
        clear hK16
        refine wp_reg ?_
        first
          | (have hpk : pkV (lkB xs x32) (lkB ys x32) = (lkB ys x32).getD noB := by rw [pkV_if]; simp_all
             skip)
          | (have hpk : pkV (lkB xs x32) (lkB ys x32) = (lkB xs x32).getD noB := by rw [pkV_if]; simp_all
             skip)
        refine ol_r (r_move rfl) rfl ?_
        refine ol_r (r_lda (id := 10) (n := 4) rfl rfl rfl ag24) rfl ?_
        refine ol_bs1 59 rfl rfl rw38 rfl rfl rfl fun a59 => ?_
        refine ol_append1 (id := 7) (id2 := 59) rfl rfl rfl rfl rfl rw38 (by omega) rfl fun a60 c60 => ?_
        refine ol_r (r_assign rfl) rfl ?_
        refine ol_nil (to_k0 (fun _ _ h => h) (hK12 _ _ _ _ _ ?_))
        clear hK12
        refine wp_reg ?_
        refine ol_r (r_add rfl rfl (by omega)) rfl ?_
        refine ol_r (r_move rfl) rfl ?_
        refine ol_nil (to_k0 (fun _ _ h => h) (hK9 ((i + 1, _, _)) _ _ ?_ ?_ (sub_cons rfl (sub_cons rfl sub_nil)) (sub_cons rfl (sub_cons rfl (sub_cons rfl (sub_cons rfl (sub_cons rfl (sub_cons rfl sub_nil)))))) (by exact (subH_row rfl (by first | (dsimp only; rw [mgK_take hx32, encBest_snoc, hpk]; rfl; done) | (rw [mgK_take hx32, encBest_snoc, hpk]; rfl; done) | (dsimp only; done)) subH_nil)) (subH_same rfl (subH_same rfl (subH_same rfl subH_nil)))))
        ·try dsimp only
         omega
        ·try dsimp only
         omega
       ·refine wp_skip' (to_k0 (fun _ _ h => h) (hK16 _ _ _ _ _ ?_))
        clear hK16
        refine wp_reg ?_
        first
          | (have hpk : pkV (lkB xs x32) (lkB ys x32) = (lkB ys x32).getD noB := by rw [pkV_if]; simp_all
             skip)
          | (have hpk : pkV (lkB xs x32) (lkB ys x32) = (lkB xs x32).getD noB := by rw [pkV_if]; simp_all
             skip)
        refine ol_r (r_move rfl) rfl ?_
        refine ol_r (r_lda (id := 10) (n := 4) rfl rfl rfl ag24) rfl ?_
        refine ol_bs1 59 rfl rfl rw38 rfl rfl rfl fun a59 => ?_
        refine ol_append1 (id := 7) (id2 := 59) rfl rfl rfl rfl rfl rw38 (by omega) rfl fun a60 c60 => ?_
        refine ol_r (r_assign rfl) rfl ?_
        refine ol_nil (to_k0 (fun _ _ h => h) (hK12 _ _ _ _ _ ?_))
        clear hK12
        refine wp_reg ?_
        refine ol_r (r_add rfl rfl (by omega)) rfl ?_
        refine ol_r (r_move rfl) rfl ?_
        refine ol_nil (to_k0 (fun _ _ h => h) (hK9 ((i + 1, _, _)) _ _ ?_ ?_ (sub_cons rfl (sub_cons rfl sub_nil)) (sub_cons rfl (sub_cons rfl (sub_cons rfl (sub_cons rfl (sub_cons rfl (sub_cons rfl sub_nil)))))) (by exact (subH_row rfl (by first | (dsimp only; rw [mgK_take hx32, encBest_snoc, hpk]; rfl; done) | (rw [mgK_take hx32, encBest_snoc, hpk]; rfl; done) | (dsimp only; done)) subH_nil)) (subH_same rfl (subH_same rfl (subH_same rfl subH_nil)))))
        ·try dsimp only
         omega
        ·try dsimp only
         omega
      ·have phs50 := hs50; try simp only [decide_eq_true_eq, decide_eq_false_iff_not, Bool.not_eq_true', Bool.not_eq_false', Bool.not_true, Bool.not_false] at phs50
       refine ol_s rfl rfl hs50 rfl ?_
       refine ol_s rfl rfl hs50 rfl ?_
       refine ol_s rfl rfl hs50 rfl ?_
       refine ol_g rfl rfl hs48 ?_
       refine ol_r (r_pickF rfl hs50 rfl) rfl ?_
       refine ol_r (r_pickF rfl hs48 rfl) rfl ?_
       refine ol_nil (to_k0 (fun _ _ h => h) (hK17 _ _ _ _ _ ?_))
       clear hK17
       refine wp_condF rfl ?_
       refine wp_skip' (to_k0 (fun _ _ h => h) (hK16 _ _ _ _ _ ?_))
       clear hK16
       refine wp_reg ?_
       first
         | (have hpk : pkV (lkB xs x32) (lkB ys x32) = (lkB ys x32).getD noB := by rw [pkV_if]; simp_all
            skip)
         | (have hpk : pkV (lkB xs x32) (lkB ys x32) = (lkB xs x32).getD noB := by rw [pkV_if]; simp_all
            skip)
       refine ol_r (r_move rfl) rfl ?_
       refine ol_r (r_lda (id := 10) (n := 4) rfl rfl rfl ag24) rfl ?_
       refine ol_bs1 59 rfl rfl rw38 rfl rfl rfl fun a59 => ?_
       refine ol_append1 (id := 7) (id2 := 59) rfl rfl rfl rfl rfl rw38 (by omega) rfl fun a60 c60 => ?_
       refine ol_r (r_assign rfl) rfl ?_
       refine ol_nil (to_k0 (fun _ _ h => h) (hK12 _ _ _ _ _ ?_))
       clear hK12
       refine wp_reg ?_
       refine ol_r (r_add rfl rfl (by omega)) rfl ?_
       refine ol_r (r_move rfl) rfl ?_
       refine ol_nil (to_k0 (fun _ _ h => h) (hK9 ((i + 1, _, _)) _ _ ?_ ?_ (sub_cons rfl (sub_cons rfl sub_nil)) (sub_cons rfl (sub_cons rfl (sub_cons rfl (sub_cons rfl (sub_cons rfl (sub_cons rfl sub_nil)))))) (by exact (subH_row rfl (by first | (dsimp only; rw [mgK_take hx32, encBest_snoc, hpk]; rfl; done) | (rw [mgK_take hx32, encBest_snoc, hpk]; rfl; done) | (dsimp only; done)) subH_nil)) (subH_same rfl (subH_same rfl (subH_same rfl subH_nil)))))
       ·try dsimp only
        omega
       ·try dsimp only
        omega
    ·refine wp_exit' (to_k0 (fun _ _ h => h) (hK7 _ _ _ _ _ ?_))
     clear hK7
     refine wp_seq' fun K18 hK18 => ?_
     refine wp_seq' fun K19 hK19 => ?_
     refine wp_reg ?_
     refine ol_r (r_move rfl) rfl ?_
     refine ol_r (r_len rfl sl38) rfl ?_
     refine ol_r (r_gtr rfl rfl) rfl ?_
     refine ol_nil (to_k0 (fun _ _ h => h) (hK19 _ _ _ _ _ ?_))
     clear hK19
     first | refine wp_condD rfl (fun hc64 => ?_) (fun hc64 => ?_) | refine wp_condN rfl (fun hc64 => ?_) (fun hc64 => ?_) | refine wp_condNB rfl (fun hc64 => ?_) (fun hc64 => ?_) | refine wp_cond' rfl (fun hc64 => ?_) (fun hc64 => ?_)
     ·refine wp_seq' fun K20 hK20 => ?_
      refine wp_reg ?_
      refine ol_r (r_assign rfl) rfl ?_
      refine ol_r (r_assign rfl) rfl ?_
      refine ol_nil (to_k0 (fun _ _ h => h) (hK20 _ _ _ _ _ ?_))
      clear hK20
      refine hQ.ret (rvs2 (rv_t rfl) (rv_t rfl)) (fun _ _ h => h) fun w hb hs hB hkd => ?_
      have hke : i = (ordI (szs xs ++ szs ys)).length := by omega
      have hmk : mgK xs ys i = mgR xs ys := by rw [hke, mgK, List.take_length]; exact mgP_eq hX.up hY.up
      have hlen : (mgR xs ys).length = i := by rw [← hmk, mgK, List.length_map, List.length_take]; omega
      first
        | (refine ⟨none, 0, 0, ?_, ?_⟩ <;> rw [mergeV_of hX hY, if_pos (by omega)]
           exact Fresh.nil hb)
        | (refine ⟨oa, i, oc, ?_, ?_⟩ <;> rw [mergeV_of hX hY, if_neg (by omega)]
           have h7 := hs.ok 7 _ rfl
           rw [hmk] at h7
           exact ⟨hb, h7⟩)
     ·refine wp_skip' (to_k0 (fun _ _ h => h) (hK18 _ _ _ _ _ ?_))
      clear hK18
      refine wp_seq' fun K21 hK21 => ?_
      refine wp_reg ?_
      refine ol_r (r_move rfl) rfl ?_
      refine ol_r (r_assign rfl) rfl ?_
      refine ol_r (r_assign rfl) rfl ?_
      refine ol_nil (to_k0 (fun _ _ h => h) (hK21 _ _ _ _ _ ?_))
      clear hK21
      refine hQ.ret (rvs2 (rv_t rfl) (rv_t rfl)) (fun _ _ h => h) fun w hb hs hB hkd => ?_
      have hke : i = (ordI (szs xs ++ szs ys)).length := by omega
      have hmk : mgK xs ys i = mgR xs ys := by rw [hke, mgK, List.take_length]; exact mgP_eq hX.up hY.up
      have hlen : (mgR xs ys).length = i := by rw [← hmk, mgK, List.length_map, List.length_take]; omega
      first
        | (refine ⟨none, 0, 0, ?_, ?_⟩ <;> rw [mergeV_of hX hY, if_pos (by omega)]
           exact Fresh.nil hb)
        | (refine ⟨oa, i, oc, ?_, ?_⟩ <;> rw [mergeV_of hX hY, if_neg (by omega)]
           have h7 := hs.ok 7 _ rfl
           rw [hmk] at h7
           exact ⟨hb, h7⟩)
theorem mg_left {la lb : List BestR} {x : BestR} (hx : la[0]? = some x) (h : lb = [] ∨ ∃ y, lb[0]? = some y ∧ x.size < y.size) : mgR la lb = x :: mgR (la.drop 1) lb := by
  cases la with
  | nil => simp at hx
  | cons u la =>
    cases hx
    rcases h with rfl | ⟨y, hy, hlt⟩
    · rw [mgR_nilr, mgR_nilr]; rfl
    · cases lb with
      | nil => simp at hy
      | cons v lb => cases hy; exact mgR_a hlt
theorem mg_right {la lb : List BestR} {y : BestR} (hy : lb[0]? = some y) (h : la = [] ∨ ∃ x, la[0]? = some x ∧ y.size < x.size) : mgR la lb = y :: mgR la (lb.drop 1) := by
  cases lb with
  | nil => simp at hy
  | cons v lb =>
    cases hy
    rcases h with rfl | ⟨x, hx, hlt⟩
    · rw [mgR_nil, mgR_nil]; rfl
    · cases la with
      | nil => simp at hx
      | cons u la => cases hx; exact mgR_b hlt
theorem mg_both {la lb : List BestR} {x y : BestR} (hx : la[0]? = some x) (hy : lb[0]? = some y) (h1 : ¬x.size < y.size) (h2 : ¬y.size < x.size) : mgR la lb = (if lessB x y = true then y else x) :: mgR (la.drop 1) (lb.drop 1) := by
  cases la with
  | nil => simp at hx
  | cons u la =>
    cases lb with
    | nil => simp at hy
    | cons v lb => cases hx; cases hy; exact mgR_c h1 h2
theorem rd_tail {B : Nat} {w : World} {a : Option Addr} {n c : Nat} {l : List BestR} (h : Rd encBest B w a ((n : Int).toNat - Int.toNat 1) c ((l.drop (Int.toNat 1)).take ((n : Int).toNat - Int.toNat 1))) (hn : l.length = n) : Rd encBest B w a ((n : Int).toNat - Int.toNat 1) c (l.drop 1) := by
  have e : (l.drop (Int.toNat 1)).take ((n : Int).toNat - Int.toNat 1) = l.drop 1 := List.take_of_length_le (by rw [List.length_drop]; show l.length - 1 ≤ (n : Int).toNat - 1; omega)
  rwa [e] at h
theorem ref4_Merge (a b : Option Addr) (n m c d : Nat) (xs ys : List BestR) (w : World) (hl : Rd encBest w.heap.size w a n c xs) (hm : Rd encBest w.heap.size w b m d ys) (hn : n ≤ 4398046511104) (hn2 : m ≤ 4398046511104) :
    Calls Try.prog 49 #[.slice a n c, .slice b m d] w fun e w' => ∃ o k kc, e = .returned (.tuple #[.slice o k kc, .int .i64 (mergeV xs ys).2]) ∧ Fresh encBest 24 w w' o k kc (mergeV xs ys).1 := by
  obtain rfl := hl.len
  obtain rfl := hm.len
  refine enterQ (N := 97) (C := fun _ => True) (H := []) (B := w.heap.size) (args := [_, _]) Try.func49 rfl rfl rfl (Nat.le_refl _) (Sat.nil _ _) fun Q hQ => ?_
  refine wp_seq' fun K1 hK1 => ?_
  refine wp_reg ?_
  refine ol_r (r_assign rfl) rfl ?_
  refine ol_r (r_assign rfl) rfl ?_
  refine ol_nil (to_k0 (fun _ _ h => h) (hK1 _ _ _ _ _ ?_))
  clear hK1
  refine wp_seq' fun K2 hK2 => ?_
  refine wp_seq' fun K3 hK3 => ?_
  refine wp_reg ?_
  refine ol_r (r_move rfl) rfl ?_
  refine ol_r (r_move rfl) rfl ?_
  refine ol_call rfl rfl cb99 rfl (fun w1 hb1 hs1 hB1 => Calls.mono (ref4_two _ _ _ _ _ _ xs ys _ (hl.at hb1 hB1) (hm.at hb1 hB1) hn hn2) ?_)
  rintro e w2 ⟨rfl, hb2⟩
  refine After.below rfl hb1 hs1 hB1 hb2 ?_
  clear hb2 hB1 hs1 hb1 w2 w1
  refine ol_r (r_assign rfl) rfl ?_
  refine ol_nil (to_k0 (fun _ _ h => h) (hK3 _ _ _ _ _ ?_))
  clear hK3
  refine wp_seq' fun K4 hK4 => ?_
  refine wp_reg ?_
  refine ol_r (r_move rfl) rfl ?_
  refine ol_r (r_neq rfl rfl) rfl ?_
  refine ol_nil (to_k0 (fun _ _ h => h) (hK4 _ _ _ _ _ ?_))
  clear hK4
  first | refine wp_condD rfl (fun hc13 => ?_) (fun hc13 => ?_) | refine wp_condN rfl (fun hc13 => ?_) (fun hc13 => ?_) | refine wp_condNB rfl (fun hc13 => ?_) (fun hc13 => ?_) | refine wp_cond' rfl (fun hc13 => ?_) (fun hc13 => ?_)
  ·refine wp_seq' fun K5 hK5 => ?_
   refine wp_reg ?_
   refine ol_r (r_move rfl) rfl ?_
   refine ol_r (r_assign rfl) rfl ?_
   refine ol_r (r_assign rfl) rfl ?_
   refine ol_nil (to_k0 (fun _ _ h => h) (hK5 _ _ _ _ _ ?_))
   clear hK5
   refine hQ.ret (rvs2 (rv_t rfl) (rv_t rfl)) (fun _ _ h => h) fun w hb hs hB hkd => ?_
   exact ⟨none, 0, 0, by rw [mergeV_e hc13], by rw [mergeV_e hc13]; exact Fresh.nil hb⟩
  ·refine wp_skip' (to_k0 (fun _ _ h => h) (hK2 _ _ _ _ _ ?_))
   clear hK2
   refine wp_seq' fun K6 hK6 => ?_
   refine wp_reg ?_
   first
     | (change _ at hx64
        obtain ⟨la', ela⟩ : ∃ l, l = la.drop 1 := ⟨_, rfl⟩
        obtain ⟨lb', elb⟩ : ∃ l, l = lb := ⟨_, rfl⟩
        obtain ⟨out', eo⟩ : ∃ l, l = out ++ [x64] := ⟨_, rfl⟩)
     | (change _ at hx87
        obtain ⟨la', ela⟩ : ∃ l, l = la := ⟨_, rfl⟩
        obtain ⟨lb', elb⟩ : ∃ l, l = lb.drop 1 := ⟨_, rfl⟩
        obtain ⟨out', eo⟩ : ∃ l, l = out ++ [x87] := ⟨_, rfl⟩)
     | (change _ at hx32
        obtain ⟨la', ela⟩ : ∃ l, l = la.drop 1 := ⟨_, rfl⟩
        obtain ⟨lb', elb⟩ : ∃ l, l = lb.drop 1 := ⟨_, rfl⟩
        obtain ⟨out', eo⟩ : ∃ l, l = out ++ [x32] := ⟨_, rfl⟩)
     | (change _ at hx24
        obtain ⟨la', ela⟩ : ∃ l, l = la.drop 1 := ⟨_, rfl⟩
        obtain ⟨lb', elb⟩ : ∃ l, l = lb.drop 1 := ⟨_, rfl⟩
        obtain ⟨out', eo⟩ : ∃ l, l = out ++ [x24] := ⟨_, rfl⟩)
     | skip
   refine ol_nilrow 7 24 4 ?_
   refine ol_r (r_assign rfl) rfl ?_
   refine ol_nil (to_k0 (fun _ _ h => h) (hK6 _ _ _ _ _ ?_))
   clear hK6
   refine wp_seq' fun K7 hK7 => ?_
   refine wp_block' ?_
   apply wp_loopM (σ := (Option Addr × Nat × Nat × List BestR) × (Option Addr × Nat × Nat × List BestR) × (Option Addr × Nat × Nat × List BestR)) (fun s => Rd encBest w.heap.size w s.1.1 s.1.2.1 s.1.2.2.1 s.1.2.2.2 ∧ Rd encBest w.heap.size w s.2.1.1 s.2.1.2.1 s.2.1.2.2.1 s.2.1.2.2.2 ∧ mgR xs ys = s.2.2.2.2.2 ++ mgR s.1.2.2.2 s.2.1.2.2.2 ∧ s.2.2.2.2.2.length = s.2.2.2.1 ∧ s.1.2.1 + s.2.1.2.1 + s.2.2.2.1 ≤ 200) (fun s => [(0, .slice s.1.1 s.1.2.1 s.1.2.2.1), (1, .slice s.2.1.1 s.2.1.2.1 s.2.1.2.2.1), (7, .slice s.2.2.1 s.2.2.2.1 s.2.2.2.2.1)]) [(4, _), (5, _)] (fun s => [(7, .row s.2.2.1 s.2.2.2.1 s.2.2.2.2.1 (encBest.enc s.2.2.2.2.2) 24 4)]) [] (fun s => s.1.2.1 + s.2.1.2.1) (((a, xs.length, c, xs), (b, ys.length, d, ys), none, 0, 0, []))
   ·try dsimp only
    have hXl := (chkC_ok (orR2 hc13).1).len
    have hYl := (chkC_ok (orR2 hc13).2).len
    exact ⟨hl, hm, rfl, rfl, by omega⟩
   ·exact (sub_cons rfl (sub_cons rfl (sub_cons rfl sub_nil)))
   ·exact (sub_cons rfl (sub_cons rfl sub_nil))
   ·exact (subH_row rfl (by first | (dsimp only; rfl; done) | (rfl; done) | (dsimp only; done)) subH_nil)
   ·exact subH_nil
   ·rintro ⟨⟨pa, na, ca, la⟩, ⟨pb, nb, cb, lb⟩, oa, ko, oc, out⟩ ⟨hla, hlb, hP, hko, hsum⟩
    dsimp only at hla hlb hP hko hsum ⊢
    have hna := hla.len
    have hnb := hlb.len
    intro K8 hK8
    refine wp_seq' fun K9 hK9 => ?_
    refine wp_seq' fun K10 hK10 => ?_
    refine wp_reg ?_
    refine ol_r (r_move rfl) rfl ?_
    refine ol_r (r_len rfl sl38) rfl ?_
    refine ol_r (r_gtr rfl rfl) rfl ?_
    refine ol_r (r_move rfl) rfl ?_
    refine ol_split (d := 18) rfl (fun hs18 => ?_) (fun hs18 => ?_)
    ·have phs18 := hs18; try simp only [decide_eq_true_eq, decide_eq_false_iff_not, Bool.not_eq_true', Bool.not_eq_false', Bool.not_true, Bool.not_false] at phs18
     refine ol_s rfl rfl hs18 rfl ?_
     refine ol_s rfl rfl hs18 rfl ?_
     refine ol_s rfl rfl hs18 rfl ?_
     refine ol_r (r_pickT rfl hs18 rfl) rfl ?_
     refine ol_nil (to_k0 (fun _ _ h => h) (hK10 _ _ _ _ _ ?_))
     clear hK10
     refine wp_condT rfl ?_
     refine wp_skip' (to_k0 (fun _ _ h => h) (hK9 _ _ _ _ _ ?_))
     clear hK9
     refine wp_block' ?_
     refine wp_block' ?_
     refine wp_seq' fun K11 hK11 => ?_
     refine wp_regq (by kernel_rfl) (by kernel_rfl) ?_
     refine ql_r (r_move rfl) rfl ?_
     refine ql_r (r_len rfl sl38) rfl ?_
     refine ql_r (r_eql rfl rfl) rfl ?_
     refine ql_r (r_move rfl) rfl ?_
     refine ql_split (d := 46) rfl (fun hs46 => ?_) (fun hs46 => ?_)
     ·have phs46 := hs46; try simp only [decide_eq_true_eq, decide_eq_false_iff_not, Bool.not_eq_true', Bool.not_eq_false', Bool.not_true, Bool.not_false] at phs46
      refine ql_s rfl rfl hs46 rfl ?_
      refine ql_s rfl rfl hs46 rfl ?_
      refine ql_s rfl rfl hs46 rfl ?_
      refine ql_s rfl rfl hs46 rfl ?_
      refine ql_u rfl rfl rfl ?_
      refine ql_u rfl rfl rfl ?_
      refine ql_u rfl rfl rfl ?_
      refine ql_u rfl rfl rfl ?_
      refine ql_u rfl rfl rfl ?_
      refine ql_u rfl rfl rfl ?_
      refine ql_u rfl rfl rfl ?_
      refine ql_u rfl rfl rfl ?_
      refine ql_u rfl rfl rfl ?_
      refine ql_s rfl rfl hs46 rfl ?_
      refine ql_r (r_pickT rfl hs46 rfl) rfl ?_
      refine ql_r (r_assign rfl) rfl ?_
      refine ql_nil (to_k0 (fun _ _ h => h) (hK11 _ _ _ _ _ ?_))
      clear hK11
      refine wp_condT rfl ?_
      refine wp_rega [(999, []), (5, [(7, _)])] (by kernel_rfl) ⟨.inr subH_nil, ⟨.inr (subH_same rfl subH_nil), trivial⟩⟩ ?_
      refine aq_r 0 999 rfl (by kernel_rfl) (by kernel_rfl) (by kernel_rfl) (.head _) (by kernel_rfl) (by kernel_rfl) rfl (r_move rfl) ?_
      refine aq_r 1 999 rfl (by kernel_rfl) (by kernel_rfl) (by kernel_rfl) (.head _) (by kernel_rfl) (by kernel_rfl) rfl (r_move rfl) ?_
      refine aq_ixr 2 999 rfl (by kernel_rfl) (by kernel_rfl) (by kernel_rfl) (.head _) (by kernel_rfl) (by kernel_rfl) rfl hla rfl rfl sl38 (by omega) fun x64 hx64 => ?_
      try simp only [Int.toNat_natCast] at hx64
      refine aq_r 3 999 rfl (by kernel_rfl) (by kernel_rfl) (by kernel_rfl) (.head _) (by kernel_rfl) (by kernel_rfl) rfl (r_ldw rfl (fun w1 hb1 hs1 hB1 => Rd.loads hla ty24 hx64 hb1)) ?_
      refine aq_r 6 999 rfl (by kernel_rfl) (by kernel_rfl) (by kernel_rfl) (.head _) (by kernel_rfl) (by kernel_rfl) rfl (r_move rfl) ?_
      refine aq_slr 7 999 rfl (by kernel_rfl) (by kernel_rfl) (by kernel_rfl) (.head _) (by kernel_rfl) (by kernel_rfl) rfl hla rfl rfl rfl sl38 (by simp only [Option.getD_some, Option.getD_none]; omega) fun a69 c69 hl69 => ?_
      try simp only [Option.getD_some, Option.getD_none] at hl69 ⊢
      refine aq_one (i := 4) (by kernel_rfl) rfl fun K12 hK12 => ?_
      refine ol_bs1 66 rfl rfl rw38 rfl rfl rfl fun a66 => ?_
      refine ol_nil (to_k0 (fun _ _ h => h) (hK12 _ _ ⟨.inr (by repeat' first | exact subH_nil | refine subH_same rfl ?_ | (refine subH_blk rfl (by repeat' first | exact sub_nil | refine sub_cons rfl ?_) ?_)), ⟨.inr (by repeat' first | exact subH_nil | refine subH_same rfl ?_ | (refine subH_blk rfl (by repeat' first | exact sub_nil | refine sub_cons rfl ?_) ?_)), trivial⟩⟩ ?_))
      clear hK12
      refine aq_one (i := 5) (by kernel_rfl) rfl fun K13 hK13 => ?_
      refine ol_append1 (id := 7) (id2 := 66) rfl rfl rfl rfl rfl rw38 (by omega) rfl fun a67 c67 => ?_
      refine ol_nil (to_k0 (fun _ _ h => h) (hK13 _ _ ⟨.inr (by repeat' first | exact subH_nil | refine subH_same rfl ?_ | (refine subH_blk rfl (by repeat' first | exact sub_nil | refine sub_cons rfl ?_) ?_)), ⟨.inl (by kernel_rfl), trivial⟩⟩ ?_))
      clear hK13
      first
        | (change _ at hx64
           obtain ⟨la', ela⟩ : ∃ l, l = la.drop 1 := ⟨_, rfl⟩
           obtain ⟨lb', elb⟩ : ∃ l, l = lb := ⟨_, rfl⟩
           obtain ⟨out', eo⟩ : ∃ l, l = out ++ [x64] := ⟨_, rfl⟩)
        | (change _ at hx87
           obtain ⟨la', ela⟩ : ∃ l, l = la := ⟨_, rfl⟩
           obtain ⟨lb', elb⟩ : ∃ l, l = lb.drop 1 := ⟨_, rfl⟩
           obtain ⟨out', eo⟩ : ∃ l, l = out ++ [x87] := ⟨_, rfl⟩)
        | (change _ at hx32
           obtain ⟨la', ela⟩ : ∃ l, l = la.drop 1 := ⟨_, rfl⟩
           obtain ⟨lb', elb⟩ : ∃ l, l = lb.drop 1 := ⟨_, rfl⟩
           obtain ⟨out', eo⟩ : ∃ l, l = out ++ [x32] := ⟨_, rfl⟩)
        | (change _ at hx24
           obtain ⟨la', ela⟩ : ∃ l, l = la.drop 1 := ⟨_, rfl⟩
           obtain ⟨lb', elb⟩ : ∃ l, l = lb.drop 1 := ⟨_, rfl⟩
           obtain ⟨out', eo⟩ : ∃ l, l = out ++ [x24] := ⟨_, rfl⟩)
        | skip
      refine aq_r 8 999 rfl (by kernel_rfl) (by kernel_rfl) (by kernel_rfl) (.head _) (by kernel_rfl) (by kernel_rfl) rfl (r_assign rfl) ?_
      refine aq_r 9 999 rfl (by kernel_rfl) (by kernel_rfl) (by kernel_rfl) (.head _) (by kernel_rfl) (by kernel_rfl) rfl (r_assign rfl) ?_
      refine aq_done (by kernel_rfl) ?_
      refine (to_k0 (fun _ _ h => h) (hK8 (((_, _, _, la'), (_, _, _, lb'), _, _, _, out')) _ _ ?_ ?_ (sub_cons rfl (sub_cons rfl (sub_cons rfl sub_nil))) (sub_cons rfl (sub_cons rfl sub_nil)) (by exact (subH_row rfl (by first | (dsimp only; rw [eo, encBest_snoc]; rfl; done) | (rw [eo, encBest_snoc]; rfl; done) | (dsimp only; done)) subH_nil)) subH_nil))
      ·try dsimp only
       first
         | (exfalso; omega)
         | (change _ at hx64
            rw [ela, elb, eo]
            refine ⟨rd_tail hl69 hna, hlb, ?_, by simp [hko], by omega⟩
            have hq : lb = [] ∨ ∃ y, lb[0]? = some y ∧ x64.size < y.size := by
              first
                | exact .inl (List.eq_nil_of_length_eq_zero (by omega))
                | (obtain rfl := Option.some.inj (hx52.symm.trans hx64)
                   exact .inr ⟨_, hx56, hc42⟩)
            rw [hP, mg_left hx64 hq, List.append_assoc]
            rfl)
         | (change _ at hx87
            rw [ela, elb, eo]
            refine ⟨hla, rd_tail hl92 hnb, ?_, by simp [hko], by omega⟩
            have hq : la = [] ∨ ∃ x, la[0]? = some x ∧ x87.size < x.size := by
              first
                | exact .inl (List.eq_nil_of_length_eq_zero (by omega))
                | (obtain rfl := Option.some.inj (hx76.symm.trans hx87)
                   exact .inr ⟨_, hx80, hc70⟩)
            rw [hP, mg_right hx87 hq, List.append_assoc]
            rfl)
         | (change _ at hx32
            rw [ela, elb, eo]
            refine ⟨rd_tail hl39 hna, rd_tail hl41 hnb, ?_, by simp [hko], by omega⟩
            obtain rfl := Option.some.inj (hx52.symm.trans hx24)
            obtain rfl := Option.some.inj (hx56.symm.trans hx28)
            obtain rfl := Option.some.inj (hx76.symm.trans hx28)
            obtain rfl := Option.some.inj (hx80.symm.trans hx24)
            obtain rfl := Option.some.inj (hx28.symm.trans hx32)
            rw [hP, mg_both hx24 hx28 hc42 hc70, if_pos hc30, List.append_assoc]
            rfl)
         | (change _ at hx24
            rw [ela, elb, eo]
            refine ⟨rd_tail hl39 hna, rd_tail hl41 hnb, ?_, by simp [hko], by omega⟩
            obtain rfl := Option.some.inj (hx52.symm.trans hx24)
            obtain rfl := Option.some.inj (hx56.symm.trans hx28)
            obtain rfl := Option.some.inj (hx76.symm.trans hx28)
            obtain rfl := Option.some.inj (hx80.symm.trans hx24)
            rw [hP, mg_both hx24 hx28 hc42 hc70, if_neg (by rw [hc30]; simp), List.append_assoc]
            rfl)
      ·try dsimp only
       omega
     ·have phs46 := hs46; try simp only [decide_eq_true_eq, decide_eq_false_iff_not, Bool.not_eq_true', Bool.not_eq_false', Bool.not_true, Bool.not_false] at phs46
      refine ql_g rfl rfl hs46 ?_
      refine ql_r (r_move rfl) rfl ?_
      refine ql_g rfl rfl hs46 ?_
      refine ql_r (r_len rfl sl38) rfl ?_
      refine ql_g rfl rfl hs46 ?_
      refine ql_r (r_gtr rfl rfl) rfl ?_
      refine ql_g rfl rfl hs46 ?_
      refine ql_r (r_move rfl) rfl ?_
      refine ql_split (d := 50) rfl (fun hs50 => ?_) (fun hs50 => ?_)
      ·have phs50 := hs50; try simp only [decide_eq_true_eq, decide_eq_false_iff_not, Bool.not_eq_true', Bool.not_eq_false', Bool.not_true, Bool.not_false] at phs50
       refine ql_g rfl rfl hs50 ?_
       refine ql_r (r_move rfl) rfl ?_
       refine ql_g rfl rfl hs50 ?_
       refine ql_ixr hla rfl rfl sl38 (by omega) rfl fun x52 hx52 => ?_
       try simp only [Int.toNat_natCast] at hx52
       refine ql_g rfl rfl hs50 ?_
       refine ql_r (r_faw rfl (ix_some hla (by omega)) fl24_0) rfl ?_
       refine ql_g rfl rfl hs50 ?_
       refine ql_r (r_ldw rfl (fun w1 hb1 hs1 hB1 => Rd.loadsF (o := 0) hla sc3 hx52 hb1 rfl)) rfl ?_
       refine ql_g rfl rfl hs50 ?_
       refine ql_r (r_move rfl) rfl ?_
       refine ql_g rfl rfl hs50 ?_
       refine ql_ixr hlb rfl rfl sl38 (by omega) rfl fun x56 hx56 => ?_
       try simp only [Int.toNat_natCast] at hx56
       refine ql_g rfl rfl hs50 ?_
       refine ql_r (r_faw rfl (ix_some hlb (by omega)) fl24_0) rfl ?_
       refine ql_g rfl rfl hs50 ?_
       refine ql_r (r_ldw rfl (fun w1 hb1 hs1 hB1 => Rd.loadsF (o := 0) hlb sc3 hx56 hb1 rfl)) rfl ?_
       refine ql_g rfl rfl hs50 ?_
       refine ql_r (r_lss rfl rfl) rfl ?_
       refine ql_g rfl rfl hs46 ?_
       refine ql_r (r_pickT rfl hs50 rfl) rfl ?_
       refine ql_r (r_pickF rfl hs46 rfl) rfl ?_
       refine ql_r (r_assign rfl) rfl ?_
       refine ql_nil (to_k0 (fun _ _ h => h) (hK11 _ _ _ _ _ ?_))
       clear hK11
       first | refine wp_condD rfl (fun hc42 => ?_) (fun hc42 => ?_) | refine wp_condN rfl (fun hc42 => ?_) (fun hc42 => ?_) | refine wp_condNB rfl (fun hc42 => ?_) (fun hc42 => ?_) | refine wp_cond' rfl (fun hc42 => ?_) (fun hc42 => ?_)
       ·refine wp_rega [(999, []), (5, [(7, _)])] (by kernel_rfl) ⟨.inr subH_nil, ⟨.inr (subH_same rfl subH_nil), trivial⟩⟩ ?_
        refine aq_r 0 999 rfl (by kernel_rfl) (by kernel_rfl) (by kernel_rfl) (.head _) (by kernel_rfl) (by kernel_rfl) rfl (r_move rfl) ?_
        refine aq_r 1 999 rfl (by kernel_rfl) (by kernel_rfl) (by kernel_rfl) (.head _) (by kernel_rfl) (by kernel_rfl) rfl (r_move rfl) ?_
        refine aq_ixr 2 999 rfl (by kernel_rfl) (by kernel_rfl) (by kernel_rfl) (.head _) (by kernel_rfl) (by kernel_rfl) rfl hla rfl rfl sl38 (by omega) fun x64 hx64 => ?_
        try simp only [Int.toNat_natCast] at hx64
        refine aq_r 3 999 rfl (by kernel_rfl) (by kernel_rfl) (by kernel_rfl) (.head _) (by kernel_rfl) (by kernel_rfl) rfl (r_ldw rfl (fun w1 hb1 hs1 hB1 => Rd.loads hla ty24 hx64 hb1)) ?_
        refine aq_r 6 999 rfl (by kernel_rfl) (by kernel_rfl) (by kernel_rfl) (.head _) (by kernel_rfl) (by kernel_rfl) rfl (r_move rfl) ?_
        refine aq_slr 7 999 rfl (by kernel_rfl) (by kernel_rfl) (by kernel_rfl) (.head _) (by kernel_rfl) (by kernel_rfl) rfl hla rfl rfl rfl sl38 (by simp only [Option.getD_some, Option.getD_none]; omega) fun a69 c69 hl69 => ?_
        try simp only [Option.getD_some, Option.getD_none] at hl69 ⊢
        refine aq_one (i := 4) (by kernel_rfl) rfl fun K14 hK14 => ?_
        refine ol_bs1 66 rfl rfl rw38 rfl rfl rfl fun a66 => ?_
        refine ol_nil (to_k0 (fun _ _ h => h) (hK14 _ _ ⟨.inr (by repeat' first | exact subH_nil | refine subH_same rfl ?_ | (refine subH_blk rfl (by repeat' first | exact sub_nil | refine sub_cons rfl ?_) ?_)), ⟨.inr (by repeat' first | exact subH_nil | refine subH_same rfl ?_ | (refine subH_blk rfl (by repeat' first | exact sub_nil | refine sub_cons rfl ?_) ?_)), trivial⟩⟩ ?_))
        clear hK14
        refine aq_one (i := 5) (by kernel_rfl) rfl fun K15 hK15 => ?_
        refine ol_append1 (id := 7) (id2 := 66) rfl rfl rfl rfl rfl rw38 (by omega) rfl fun a67 c67 => ?_
        refine ol_nil (to_k0 (fun _ _ h => h) (hK15 _ _ ⟨.inr (by repeat' first | exact subH_nil | refine subH_same rfl ?_ | (refine subH_blk rfl (by repeat' first | exact sub_nil | refine sub_cons rfl ?_) ?_)), ⟨.inl (by kernel_rfl), trivial⟩⟩ ?_))
        clear hK15
        first
          | (change _ at hx64
             obtain ⟨la', ela⟩ : ∃ l, l = la.drop 1 := ⟨_, rfl⟩
             obtain ⟨lb', elb⟩ : ∃ l, l = lb := ⟨_, rfl⟩
             obtain ⟨out', eo⟩ : ∃ l, l = out ++ [x64] := ⟨_, rfl⟩)
          | (change _ at hx87
             obtain ⟨la', ela⟩ : ∃ l, l = la := ⟨_, rfl⟩
             obtain ⟨lb', elb⟩ : ∃ l, l = lb.drop 1 := ⟨_, rfl⟩
             obtain ⟨out', eo⟩ : ∃ l, l = out ++ [x87] := ⟨_, rfl⟩)
          | (change _ at hx32
             obtain ⟨la', ela⟩ : ∃ l, l = la.drop 1 := ⟨_, rfl⟩
             obtain ⟨lb', elb⟩ : ∃ l, l = lb.drop 1 := ⟨_, rfl⟩
             obtain ⟨out', eo⟩ : ∃ l, l = out ++ [x32] := ⟨_, rfl⟩)
          | (change _ at hx24
             obtain ⟨la', ela⟩ : ∃ l, l = la.drop 1 := ⟨_, rfl⟩
             obtain ⟨lb', elb⟩ : ∃ l, l = lb.drop 1 := ⟨_, rfl⟩
             obtain ⟨out', eo⟩ : ∃ l, l = out ++ [x24] := ⟨_, rfl⟩)
          | skip
        refine aq_r 8 999 rfl (by kernel_rfl) (by kernel_rfl) (by kernel_rfl) (.head _) (by kernel_rfl) (by kernel_rfl) rfl (r_assign rfl) ?_
        refine aq_r 9 999 rfl (by kernel_rfl) (by kernel_rfl) (by kernel_rfl) (.head _) (by kernel_rfl) (by kernel_rfl) rfl (r_assign rfl) ?_
        refine aq_done (by kernel_rfl) ?_
        refine (to_k0 (fun _ _ h => h) (hK8 (((_, _, _, la'), (_, _, _, lb'), _, _, _, out')) _ _ ?_ ?_ (sub_cons rfl (sub_cons rfl (sub_cons rfl sub_nil))) (sub_cons rfl (sub_cons rfl sub_nil)) (by exact (subH_row rfl (by first | (dsimp only; rw [eo, encBest_snoc]; rfl; done) | (rw [eo, encBest_snoc]; rfl; done) | (dsimp only; done)) subH_nil)) subH_nil))
        ·try dsimp only
         first
           | (exfalso; omega)
           | (change _ at hx64
              rw [ela, elb, eo]
              refine ⟨rd_tail hl69 hna, hlb, ?_, by simp [hko], by omega⟩
              have hq : lb = [] ∨ ∃ y, lb[0]? = some y ∧ x64.size < y.size := by
                first
                  | exact .inl (List.eq_nil_of_length_eq_zero (by omega))
                  | (obtain rfl := Option.some.inj (hx52.symm.trans hx64)
                     exact .inr ⟨_, hx56, hc42⟩)
              rw [hP, mg_left hx64 hq, List.append_assoc]
              rfl)
           | (change _ at hx87
              rw [ela, elb, eo]
              refine ⟨hla, rd_tail hl92 hnb, ?_, by simp [hko], by omega⟩
              have hq : la = [] ∨ ∃ x, la[0]? = some x ∧ x87.size < x.size := by
                first
                  | exact .inl (List.eq_nil_of_length_eq_zero (by omega))
                  | (obtain rfl := Option.some.inj (hx76.symm.trans hx87)
                     exact .inr ⟨_, hx80, hc70⟩)
              rw [hP, mg_right hx87 hq, List.append_assoc]
              rfl)
           | (change _ at hx32
              rw [ela, elb, eo]
              refine ⟨rd_tail hl39 hna, rd_tail hl41 hnb, ?_, by simp [hko], by omega⟩
              obtain rfl := Option.some.inj (hx52.symm.trans hx24)
              obtain rfl := Option.some.inj (hx56.symm.trans hx28)
              obtain rfl := Option.some.inj (hx76.symm.trans hx28)
              obtain rfl := Option.some.inj (hx80.symm.trans hx24)
              obtain rfl := Option.some.inj (hx28.symm.trans hx32)
              rw [hP, mg_both hx24 hx28 hc42 hc70, if_pos hc30, List.append_assoc]
              rfl)
           | (change _ at hx24
              rw [ela, elb, eo]
              refine ⟨rd_tail hl39 hna, rd_tail hl41 hnb, ?_, by simp [hko], by omega⟩
              obtain rfl := Option.some.inj (hx52.symm.trans hx24)
              obtain rfl := Option.some.inj (hx56.symm.trans hx28)
              obtain rfl := Option.some.inj (hx76.symm.trans hx28)
              obtain rfl := Option.some.inj (hx80.symm.trans hx24)
              rw [hP, mg_both hx24 hx28 hc42 hc70, if_neg (by rw [hc30]; simp), List.append_assoc]
              rfl)
        ·try dsimp only
         omega
       ·refine wp_seq' fun K16 hK16 => ?_
        refine wp_regq (by kernel_rfl) (by kernel_rfl) ?_
        refine ql_r (r_move rfl) rfl ?_
        refine ql_r (r_len rfl sl38) rfl ?_
        refine ql_r (r_eql rfl rfl) rfl ?_
        refine ql_r (r_move rfl) rfl ?_
        refine ql_split (d := 74) rfl (fun hs74 => ?_) (fun hs74 => ?_)
        ·have phs74 := hs74; try simp only [decide_eq_true_eq, decide_eq_false_iff_not, Bool.not_eq_true', Bool.not_eq_false', Bool.not_true, Bool.not_false] at phs74
         refine ql_s rfl rfl hs74 rfl ?_
         refine ql_s rfl rfl hs74 rfl ?_
         refine ql_s rfl rfl hs74 rfl ?_
         refine ql_s rfl rfl hs74 rfl ?_
         refine ql_s rfl rfl hs74 rfl ?_
         refine ql_s rfl rfl hs74 rfl ?_
         refine ql_s rfl rfl hs74 rfl ?_
         refine ql_s rfl rfl hs74 rfl ?_
         refine ql_s rfl rfl hs74 rfl ?_
         refine ql_r (r_pickT rfl hs74 rfl) rfl ?_
         refine ql_r (r_assign rfl) rfl ?_
         refine ql_nil (to_k0 (fun _ _ h => h) (hK16 _ _ _ _ _ ?_))
         clear hK16
         refine wp_condT rfl ?_
         refine wp_rega [(999, []), (5, [(7, _)])] (by kernel_rfl) ⟨.inr subH_nil, ⟨.inr (subH_same rfl subH_nil), trivial⟩⟩ ?_
         refine aq_r 0 999 rfl (by kernel_rfl) (by kernel_rfl) (by kernel_rfl) (.head _) (by kernel_rfl) (by kernel_rfl) rfl (r_move rfl) ?_
         refine aq_r 1 999 rfl (by kernel_rfl) (by kernel_rfl) (by kernel_rfl) (.head _) (by kernel_rfl) (by kernel_rfl) rfl (r_move rfl) ?_
         refine aq_ixr 2 999 rfl (by kernel_rfl) (by kernel_rfl) (by kernel_rfl) (.head _) (by kernel_rfl) (by kernel_rfl) rfl hlb rfl rfl sl38 (by omega) fun x87 hx87 => ?_
         try simp only [Int.toNat_natCast] at hx87
         refine aq_r 3 999 rfl (by kernel_rfl) (by kernel_rfl) (by kernel_rfl) (.head _) (by kernel_rfl) (by kernel_rfl) rfl (r_ldw rfl (fun w1 hb1 hs1 hB1 => Rd.loads hlb ty24 hx87 hb1)) ?_
         refine aq_r 6 999 rfl (by kernel_rfl) (by kernel_rfl) (by kernel_rfl) (.head _) (by kernel_rfl) (by kernel_rfl) rfl (r_move rfl) ?_
         refine aq_slr 7 999 rfl (by kernel_rfl) (by kernel_rfl) (by kernel_rfl) (.head _) (by kernel_rfl) (by kernel_rfl) rfl hlb rfl rfl rfl sl38 (by simp only [Option.getD_some, Option.getD_none]; omega) fun a92 c92 hl92 => ?_
         try simp only [Option.getD_some, Option.getD_none] at hl92 ⊢
         refine aq_one (i := 4) (by kernel_rfl) rfl fun K17 hK17 => ?_
         refine ol_bs1 89 rfl rfl rw38 rfl rfl rfl fun a89 => ?_
         refine ol_nil (to_k0 (fun _ _ h => h) (hK17 _ _ ⟨.inr (by repeat' first | exact subH_nil | refine subH_same rfl ?_ | (refine subH_blk rfl (by repeat' first | exact sub_nil | refine sub_cons rfl ?_) ?_)), ⟨.inr (by repeat' first | exact subH_nil | refine subH_same rfl ?_ | (refine subH_blk rfl (by repeat' first | exact sub_nil | refine sub_cons rfl ?_) ?_)), trivial⟩⟩ ?_))
         clear hK17
         refine aq_one (i := 5) (by kernel_rfl) rfl fun K18 hK18 => ?_
         refine ol_append1 (id := 7) (id2 := 89) rfl rfl rfl rfl rfl rw38 (by omega) rfl fun a90 c90 => ?_
         refine ol_nil (to_k0 (fun _ _ h => h) (hK18 _ _ ⟨.inr (by repeat' first | exact subH_nil | refine subH_same rfl ?_ | (refine subH_blk rfl (by repeat' first | exact sub_nil | refine sub_cons rfl ?_) ?_)), ⟨.inl (by kernel_rfl), trivial⟩⟩ ?_))
         clear hK18
         first
           | (change _ at hx64
              obtain ⟨la', ela⟩ : ∃ l, l = la.drop 1 := ⟨_, rfl⟩
              obtain ⟨lb', elb⟩ : ∃ l, l = lb := ⟨_, rfl⟩
              obtain ⟨out', eo⟩ : ∃ l, l = out ++ [x64] := ⟨_, rfl⟩)
           | (change _ at hx87
              obtain ⟨la', ela⟩ : ∃ l, l = la := ⟨_, rfl⟩
              obtain ⟨lb', elb⟩ : ∃ l, l = lb.drop 1 := ⟨_, rfl⟩
              obtain ⟨out', eo⟩ : ∃ l, l = out ++ [x87] := ⟨_, rfl⟩)
           | (change _ at hx32
              obtain ⟨la', ela⟩ : ∃ l, l = la.drop 1 := ⟨_, rfl⟩
              obtain ⟨lb', elb⟩ : ∃ l, l = lb.drop 1 := ⟨_, rfl⟩
              obtain ⟨out', eo⟩ : ∃ l, l = out ++ [x32] := ⟨_, rfl⟩)
           | (change _ at hx24
              obtain ⟨la', ela⟩ : ∃ l, l = la.drop 1 := ⟨_, rfl⟩
              obtain ⟨lb', elb⟩ : ∃ l, l = lb.drop 1 := ⟨_, rfl⟩
              obtain ⟨out', eo⟩ : ∃ l, l = out ++ [x24] := ⟨_, rfl⟩)
           | skip
         refine aq_r 8 999 rfl (by kernel_rfl) (by kernel_rfl) (by kernel_rfl) (.head _) (by kernel_rfl) (by kernel_rfl) rfl (r_assign rfl) ?_
         refine aq_r 9 999 rfl (by kernel_rfl) (by kernel_rfl) (by kernel_rfl) (.head _) (by kernel_rfl) (by kernel_rfl) rfl (r_assign rfl) ?_
         refine aq_done (by kernel_rfl) ?_
         refine (to_k0 (fun _ _ h => h) (hK8 (((_, _, _, la'), (_, _, _, lb'), _, _, _, out')) _ _ ?_ ?_ (sub_cons rfl (sub_cons rfl (sub_cons rfl sub_nil))) (sub_cons rfl (sub_cons rfl sub_nil)) (by exact (subH_row rfl (by first | (dsimp only; rw [eo, encBest_snoc]; rfl; done) | (rw [eo, encBest_snoc]; rfl; done) | (dsimp only; done)) subH_nil)) subH_nil))
         ·try dsimp only
          first
            | (exfalso; omega)
            | (change _ at hx64
               rw [ela, elb, eo]
               refine ⟨rd_tail hl69 hna, hlb, ?_, by simp [hko], by omega⟩
               have hq : lb = [] ∨ ∃ y, lb[0]? = some y ∧ x64.size < y.size := by
                 first
                   | exact .inl (List.eq_nil_of_length_eq_zero (by omega))
                   | (obtain rfl := Option.some.inj (hx52.symm.trans hx64)
                      exact .inr ⟨_, hx56, hc42⟩)
               rw [hP, mg_left hx64 hq, List.append_assoc]
               rfl)
            | (change _ at hx87
               rw [ela, elb, eo]
               refine ⟨hla, rd_tail hl92 hnb, ?_, by simp [hko], by omega⟩
               have hq : la = [] ∨ ∃ x, la[0]? = some x ∧ x87.size < x.size := by
                 first
                   | exact .inl (List.eq_nil_of_length_eq_zero (by omega))
                   | (obtain rfl := Option.some.inj (hx76.symm.trans hx87)
                      exact .inr ⟨_, hx80, hc70⟩)
               rw [hP, mg_right hx87 hq, List.append_assoc]
               rfl)
            | (change _ at hx32
               rw [ela, elb, eo]
               refine ⟨rd_tail hl39 hna, rd_tail hl41 hnb, ?_, by simp [hko], by omega⟩
               obtain rfl := Option.some.inj (hx52.symm.trans hx24)
               obtain rfl := Option.some.inj (hx56.symm.trans hx28)
               obtain rfl := Option.some.inj (hx76.symm.trans hx28)
               obtain rfl := Option.some.inj (hx80.symm.trans hx24)
               obtain rfl := Option.some.inj (hx28.symm.trans hx32)
               rw [hP, mg_both hx24 hx28 hc42 hc70, if_pos hc30, List.append_assoc]
               rfl)
            | (change _ at hx24
               rw [ela, elb, eo]
               refine ⟨rd_tail hl39 hna, rd_tail hl41 hnb, ?_, by simp [hko], by omega⟩
               obtain rfl := Option.some.inj (hx52.symm.trans hx24)
               obtain rfl := Option.some.inj (hx56.symm.trans hx28)
               obtain rfl := Option.some.inj (hx76.symm.trans hx28)
               obtain rfl := Option.some.inj (hx80.symm.trans hx24)
               rw [hP, mg_both hx24 hx28 hc42 hc70, if_neg (by rw [hc30]; simp), List.append_assoc]
               rfl)
         ·try dsimp only
          omega
        ·have phs74 := hs74; try simp only [decide_eq_true_eq, decide_eq_false_iff_not, Bool.not_eq_true', Bool.not_eq_false', Bool.not_true, Bool.not_false] at phs74
         refine ql_g rfl rfl hs74 ?_
         refine ql_r (r_move rfl) rfl ?_
         refine ql_g rfl rfl hs74 ?_
         refine ql_ixr hlb rfl rfl sl38 (by omega) rfl fun x76 hx76 => ?_
         try simp only [Int.toNat_natCast] at hx76
         refine ql_g rfl rfl hs74 ?_
         refine ql_r (r_faw rfl (ix_some hlb (by omega)) fl24_0) rfl ?_
         refine ql_g rfl rfl hs74 ?_
         refine ql_r (r_ldw rfl (fun w1 hb1 hs1 hB1 => Rd.loadsF (o := 0) hlb sc3 hx76 hb1 rfl)) rfl ?_
         refine ql_g rfl rfl hs74 ?_
         refine ql_r (r_move rfl) rfl ?_
         refine ql_g rfl rfl hs74 ?_
         refine ql_ixr hla rfl rfl sl38 (by omega) rfl fun x80 hx80 => ?_
         try simp only [Int.toNat_natCast] at hx80
         refine ql_g rfl rfl hs74 ?_
         refine ql_r (r_faw rfl (ix_some hla (by omega)) fl24_0) rfl ?_
         refine ql_g rfl rfl hs74 ?_
         refine ql_r (r_ldw rfl (fun w1 hb1 hs1 hB1 => Rd.loadsF (o := 0) hla sc3 hx80 hb1 rfl)) rfl ?_
         refine ql_g rfl rfl hs74 ?_
         refine ql_r (r_lss rfl rfl) rfl ?_
         refine ql_r (r_pickF rfl hs74 rfl) rfl ?_
         refine ql_r (r_assign rfl) rfl ?_
         refine ql_nil (to_k0 (fun _ _ h => h) (hK16 _ _ _ _ _ ?_))
         clear hK16
         first | refine wp_condD rfl (fun hc70 => ?_) (fun hc70 => ?_) | refine wp_condN rfl (fun hc70 => ?_) (fun hc70 => ?_) | refine wp_condNB rfl (fun hc70 => ?_) (fun hc70 => ?_) | refine wp_cond' rfl (fun hc70 => ?_) (fun hc70 => ?_)
         ·refine wp_rega [(999, []), (5, [(7, _)])] (by kernel_rfl) ⟨.inr subH_nil, ⟨.inr (subH_same rfl subH_nil), trivial⟩⟩ ?_
          refine aq_r 0 999 rfl (by kernel_rfl) (by kernel_rfl) (by kernel_rfl) (.head _) (by kernel_rfl) (by kernel_rfl) rfl (r_move rfl) ?_
          refine aq_r 1 999 rfl (by kernel_rfl) (by kernel_rfl) (by kernel_rfl) (.head _) (by kernel_rfl) (by kernel_rfl) rfl (r_move rfl) ?_
          refine aq_ixr 2 999 rfl (by kernel_rfl) (by kernel_rfl) (by kernel_rfl) (.head _) (by kernel_rfl) (by kernel_rfl) rfl hlb rfl rfl sl38 (by omega) fun x87 hx87 => ?_
          try simp only [Int.toNat_natCast] at hx87
          refine aq_r 3 999 rfl (by kernel_rfl) (by kernel_rfl) (by kernel_rfl) (.head _) (by kernel_rfl) (by kernel_rfl) rfl (r_ldw rfl (fun w1 hb1 hs1 hB1 => Rd.loads hlb ty24 hx87 hb1)) ?_
          refine aq_r 6 999 rfl (by kernel_rfl) (by kernel_rfl) (by kernel_rfl) (.head _) (by kernel_rfl) (by kernel_rfl) rfl (r_move rfl) ?_
          refine aq_slr 7 999 rfl (by kernel_rfl) (by kernel_rfl) (by kernel_rfl) (.head _) (by kernel_rfl) (by kernel_rfl) rfl hlb rfl rfl rfl sl38 (by simp only [Option.getD_some, Option.getD_none]; omega) fun a92 c92 hl92 => ?_
          try simp only [Option.getD_some, Option.getD_none] at hl92 ⊢
          refine aq_one (i := 4) (by kernel_rfl) rfl fun K19 hK19 => ?_
          refine ol_bs1 89 rfl rfl rw38 rfl rfl rfl fun a89 => ?_
          refine ol_nil (to_k0 (fun _ _ h => h) (hK19 _ _ ⟨.inr (by repeat' first | exact subH_nil | refine subH_same rfl ?_ | (refine subH_blk rfl (by repeat' first | exact sub_nil | refine sub_cons rfl ?_) ?_)), ⟨.inr (by repeat' first | exact subH_nil | refine subH_same rfl ?_ | (refine subH_blk rfl (by repeat' first | exact sub_nil | refine sub_cons rfl ?_) ?_)), trivial⟩⟩ ?_))
          clear hK19
          refine aq_one (i := 5) (by kernel_rfl) rfl fun K20 hK20 => ?_
          refine ol_append1 (id := 7) (id2 := 89) rfl rfl rfl rfl rfl rw38 (by omega) rfl fun a90 c90 => ?_
          refine ol_nil (to_k0 (fun _ _ h => h) (hK20 _ _ ⟨.inr (by repeat' first | exact subH_nil | refine subH_same rfl ?_ | (refine subH_blk rfl (by repeat' first | exact sub_nil | refine sub_cons rfl ?_) ?_)), ⟨.inl (by kernel_rfl), trivial⟩⟩ ?_))
          clear hK20
          first
            | (change _ at hx64
               obtain ⟨la', ela⟩ : ∃ l, l = la.drop 1 := ⟨_, rfl⟩
               obtain ⟨lb', elb⟩ : ∃ l, l = lb := ⟨_, rfl⟩
               obtain ⟨out', eo⟩ : ∃ l, l = out ++ [x64] := ⟨_, rfl⟩)
            | (change _ at hx87
               obtain ⟨la', ela⟩ : ∃ l, l = la := ⟨_, rfl⟩
               obtain ⟨lb', elb⟩ : ∃ l, l = lb.drop 1 := ⟨_, rfl⟩
               obtain ⟨out', eo⟩ : ∃ l, l = out ++ [x87] := ⟨_, rfl⟩)
            | (change _ at hx32
               obtain ⟨la', ela⟩ : ∃ l, l = la.drop 1 := ⟨_, rfl⟩
               obtain ⟨lb', elb⟩ : ∃ l, l = lb.drop 1 := ⟨_, rfl⟩
               obtain ⟨out', eo⟩ : ∃ l, l = out ++ [x32] := ⟨_, rfl⟩)
            | (change _ at hx24
               obtain ⟨la', ela⟩ : ∃ l, l = la.drop 1 := ⟨_, rfl⟩
               obtain ⟨lb', elb⟩ : ∃ l, l = lb.drop 1 := ⟨_, rfl⟩
               obtain ⟨out', eo⟩ : ∃ l, l = out ++ [x24] := ⟨_, rfl⟩)
            | skip
          refine aq_r 8 999 rfl (by kernel_rfl) (by kernel_rfl) (by kernel_rfl) (.head _) (by kernel_rfl) (by kernel_rfl) rfl (r_assign rfl) ?_
          refine aq_r 9 999 rfl (by kernel_rfl) (by kernel_rfl) (by kernel_rfl) (.head _) (by kernel_rfl) (by kernel_rfl) rfl (r_assign rfl) ?_
          refine aq_done (by kernel_rfl) ?_
          refine (to_k0 (fun _ _ h => h) (hK8 (((_, _, _, la'), (_, _, _, lb'), _, _, _, out')) _ _ ?_ ?_ (sub_cons rfl (sub_cons rfl (sub_cons rfl sub_nil))) (sub_cons rfl (sub_cons rfl sub_nil)) (by exact (subH_row rfl (by first | (dsimp only; rw [eo, encBest_snoc]; rfl; done) | (rw [eo, encBest_snoc]; rfl; done) | (dsimp only; done)) subH_nil)) subH_nil))
          ·try dsimp only
           first
             | (exfalso; omega)
             | (change _ at hx64
                rw [ela, elb, eo]
                refine ⟨rd_tail hl69 hna, hlb, ?_, by simp [hko], by omega⟩
                have hq : lb = [] ∨ ∃ y, lb[0]? = some y ∧ x64.size < y.size := by
                  first
                    | exact .inl (List.eq_nil_of_length_eq_zero (by omega))
                    | (obtain rfl := Option.some.inj (hx52.symm.trans hx64)
                       exact .inr ⟨_, hx56, hc42⟩)
                rw [hP, mg_left hx64 hq, List.append_assoc]
                rfl)
             | (change _ at hx87
                rw [ela, elb, eo]
                refine ⟨hla, rd_tail hl92 hnb, ?_, by simp [hko], by omega⟩
                have hq : la = [] ∨ ∃ x, la[0]? = some x ∧ x87.size < x.size := by
                  first
                    | exact .inl (List.eq_nil_of_length_eq_zero (by omega))
                    | (obtain rfl := Option.some.inj (hx76.symm.trans hx87)
                       exact .inr ⟨_, hx80, hc70⟩)
                rw [hP, mg_right hx87 hq, List.append_assoc]
                rfl)
             | (change _ at hx32
                rw [ela, elb, eo]
                refine ⟨rd_tail hl39 hna, rd_tail hl41 hnb, ?_, by simp [hko], by omega⟩
                obtain rfl := Option.some.inj (hx52.symm.trans hx24)
                obtain rfl := Option.some.inj (hx56.symm.trans hx28)
                obtain rfl := Option.some.inj (hx76.symm.trans hx28)
                obtain rfl := Option.some.inj (hx80.symm.trans hx24)
                obtain rfl := Option.some.inj (hx28.symm.trans hx32)
                rw [hP, mg_both hx24 hx28 hc42 hc70, if_pos hc30, List.append_assoc]
                rfl)
             | (change _ at hx24
                rw [ela, elb, eo]
                refine ⟨rd_tail hl39 hna, rd_tail hl41 hnb, ?_, by simp [hko], by omega⟩
                obtain rfl := Option.some.inj (hx52.symm.trans hx24)
                obtain rfl := Option.some.inj (hx56.symm.trans hx28)
                obtain rfl := Option.some.inj (hx76.symm.trans hx28)
                obtain rfl := Option.some.inj (hx80.symm.trans hx24)
                rw [hP, mg_both hx24 hx28 hc42 hc70, if_neg (by rw [hc30]; simp), List.append_assoc]
                rfl)
          ·try dsimp only
           omega
         ·refine wp_seq' fun K21 hK21 => ?_
          refine wp_reg ?_
          refine ol_r (r_move rfl) rfl ?_
          refine ol_ixr hla rfl rfl sl38 (by omega) rfl fun x24 hx24 => ?_
          try simp only [Int.toNat_natCast] at hx24
          refine ol_r (r_ldw rfl (fun w1 hb1 hs1 hB1 => Rd.loads hla ty24 hx24 hb1)) rfl ?_
          refine ol_alloc 8 z24 rfl fun b8 => ?_
          refine ol_store (id := 8) rfl rfl rfl rfl sz24 rfl rfl (by first | decide | exact Nat.zero_lt_succ _ | simp) ?_
          refine ol_nil (to_k0 (fun _ _ h => h) (hK21 _ _ _ _ _ ?_))
          clear hK21
          refine wp_seq' fun K22 hK22 => ?_
          refine wp_seq' fun K23 hK23 => ?_
          refine wp_regq (by kernel_rfl) (by kernel_rfl) ?_
          refine ql_r (r_lda (id := 8) (n := 4) rfl rfl rfl ag24) rfl ?_
          refine ql_r (r_move rfl) rfl ?_
          refine ql_ixr hlb rfl rfl sl38 (by omega) rfl fun x28 hx28 => ?_
          try simp only [Int.toNat_natCast] at hx28
          refine ql_r (r_ldw rfl (fun w1 hb1 hs1 hB1 => Rd.loads hlb ty24 hx28 hb1)) rfl ?_
          refine ql_call rfl rfl cb100 rfl (fun w1 hb1 hs1 hB1 => ref4_less x24 x28 _) ?_
          refine ql_nil (to_k0 (fun _ _ h => h) (hK23 _ _ _ _ _ ?_))
          clear hK23
          first | refine wp_condD rfl (fun hc30 => ?_) (fun hc30 => ?_) | refine wp_condN rfl (fun hc30 => ?_) (fun hc30 => ?_) | refine wp_condNB rfl (fun hc30 => ?_) (fun hc30 => ?_) | refine wp_cond' rfl (fun hc30 => ?_) (fun hc30 => ?_)
          ·refine wp_reg ?_
           refine ol_r (r_move rfl) rfl ?_
           refine ol_ixr hlb rfl rfl sl38 (by omega) rfl fun x32 hx32 => ?_
           try simp only [Int.toNat_natCast] at hx32
           refine ol_r (r_ldw rfl (fun w1 hb1 hs1 hB1 => Rd.loads hlb ty24 hx32 hb1)) rfl ?_
           refine ol_store (id := 8) rfl rfl rfl rfl sz24 rfl rfl (by first | decide | exact Nat.zero_lt_succ _ | simp) ?_
           refine ol_nil (to_k0 (fun _ _ h => h) (hK22 _ _ _ _ _ ?_))
           clear hK22
           refine wp_rega [(999, [(8, _)]), (3, [(7, _)])] (by kernel_rfl) ⟨.inr (subH_same rfl subH_nil), ⟨.inr (subH_same rfl subH_nil), trivial⟩⟩ ?_
           refine aq_r 0 999 rfl (by kernel_rfl) (by kernel_rfl) (by kernel_rfl) (.head _) (by kernel_rfl) (by kernel_rfl) rfl (r_move rfl) ?_
           refine aq_r 1 999 rfl (by kernel_rfl) (by kernel_rfl) (by kernel_rfl) (.head _) (by kernel_rfl) (by kernel_rfl) rfl (r_lda (id := 8) (n := 4) rfl rfl rfl ag24) ?_
           refine aq_r 4 999 rfl (by kernel_rfl) (by kernel_rfl) (by kernel_rfl) (.head _) (by kernel_rfl) (by kernel_rfl) rfl (r_move rfl) ?_
           refine aq_slr 5 999 rfl (by kernel_rfl) (by kernel_rfl) (by kernel_rfl) (.head _) (by kernel_rfl) (by kernel_rfl) rfl hla rfl rfl rfl sl38 (by simp only [Option.getD_some, Option.getD_none]; omega) fun a39 c39 hl39 => ?_
           try simp only [Option.getD_some, Option.getD_none] at hl39 ⊢
           refine aq_r 6 999 rfl (by kernel_rfl) (by kernel_rfl) (by kernel_rfl) (.head _) (by kernel_rfl) (by kernel_rfl) rfl (r_move rfl) ?_
           refine aq_slr 7 999 rfl (by kernel_rfl) (by kernel_rfl) (by kernel_rfl) (.head _) (by kernel_rfl) (by kernel_rfl) rfl hlb rfl rfl rfl sl38 (by simp only [Option.getD_some, Option.getD_none]; omega) fun a41 c41 hl41 => ?_
           try simp only [Option.getD_some, Option.getD_none] at hl41 ⊢
           refine aq_one (i := 2) (by kernel_rfl) rfl fun K24 hK24 => ?_
           refine ol_bs1 36 rfl rfl rw38 rfl rfl rfl fun a36 => ?_
           refine ol_nil (to_k0 (fun _ _ h => h) (hK24 _ _ ⟨.inr (by repeat' first | exact subH_nil | refine subH_same rfl ?_ | (refine subH_blk rfl (by repeat' first | exact sub_nil | refine sub_cons rfl ?_) ?_)), ⟨.inr (by repeat' first | exact subH_nil | refine subH_same rfl ?_ | (refine subH_blk rfl (by repeat' first | exact sub_nil | refine sub_cons rfl ?_) ?_)), trivial⟩⟩ ?_))
           clear hK24
           refine aq_one (i := 3) (by kernel_rfl) rfl fun K25 hK25 => ?_
           refine ol_append1 (id := 7) (id2 := 36) rfl rfl rfl rfl rfl rw38 (by omega) rfl fun a37 c37 => ?_
           refine ol_nil (to_k0 (fun _ _ h => h) (hK25 _ _ ⟨.inr (by repeat' first | exact subH_nil | refine subH_same rfl ?_ | (refine subH_blk rfl (by repeat' first | exact sub_nil | refine sub_cons rfl ?_) ?_)), ⟨.inl (by kernel_rfl), trivial⟩⟩ ?_))
           clear hK25
           first
             | (change _ at hx64
                obtain ⟨la', ela⟩ : ∃ l, l = la.drop 1 := ⟨_, rfl⟩
                obtain ⟨lb', elb⟩ : ∃ l, l = lb := ⟨_, rfl⟩
                obtain ⟨out', eo⟩ : ∃ l, l = out ++ [x64] := ⟨_, rfl⟩)
             | (change _ at hx87
                obtain ⟨la', ela⟩ : ∃ l, l = la := ⟨_, rfl⟩
                obtain ⟨lb', elb⟩ : ∃ l, l = lb.drop 1 := ⟨_, rfl⟩
                obtain ⟨out', eo⟩ : ∃ l, l = out ++ [x87] := ⟨_, rfl⟩)
             | (change _ at hx32
                obtain ⟨la', ela⟩ : ∃ l, l = la.drop 1 := ⟨_, rfl⟩
                obtain ⟨lb', elb⟩ : ∃ l, l = lb.drop 1 := ⟨_, rfl⟩
                obtain ⟨out', eo⟩ : ∃ l, l = out ++ [x32] := ⟨_, rfl⟩)
             | (change _ at hx24
                obtain ⟨la', ela⟩ : ∃ l, l = la.drop 1 := ⟨_, rfl⟩
                obtain ⟨lb', elb⟩ : ∃ l, l = lb.drop 1 := ⟨_, rfl⟩
                obtain ⟨out', eo⟩ : ∃ l, l = out ++ [x24] := ⟨_, rfl⟩)
             | skip
           refine aq_r 8 999 rfl (by kernel_rfl) (by kernel_rfl) (by kernel_rfl) (.head _) (by kernel_rfl) (by kernel_rfl) rfl (r_assign rfl) ?_
           refine aq_r 9 999 rfl (by kernel_rfl) (by kernel_rfl) (by kernel_rfl) (.head _) (by kernel_rfl) (by kernel_rfl) rfl (r_assign rfl) ?_
           refine aq_r 10 999 rfl (by kernel_rfl) (by kernel_rfl) (by kernel_rfl) (.head _) (by kernel_rfl) (by kernel_rfl) rfl (r_assign rfl) ?_
           refine aq_done (by kernel_rfl) ?_
           refine (to_k0 (fun _ _ h => h) (hK8 (((_, _, _, la'), (_, _, _, lb'), _, _, _, out')) _ _ ?_ ?_ (sub_cons rfl (sub_cons rfl (sub_cons rfl sub_nil))) (sub_cons rfl (sub_cons rfl sub_nil)) (by exact (subH_row rfl (by first | (dsimp only; rw [eo, encBest_snoc]; rfl; done) | (rw [eo, encBest_snoc]; rfl; done) | (dsimp only; done)) subH_nil)) subH_nil))
           ·try dsimp only
            first
              | (exfalso; omega)
              | (change _ at hx64
                 rw [ela, elb, eo]
                 refine ⟨rd_tail hl69 hna, hlb, ?_, by simp [hko], by omega⟩
                 have hq : lb = [] ∨ ∃ y, lb[0]? = some y ∧ x64.size < y.size := by
                   first
                     | exact .inl (List.eq_nil_of_length_eq_zero (by omega))
                     | (obtain rfl := Option.some.inj (hx52.symm.trans hx64)
                        exact .inr ⟨_, hx56, hc42⟩)
                 rw [hP, mg_left hx64 hq, List.append_assoc]
                 rfl)
              | (change _ at hx87
                 rw [ela, elb, eo]
                 refine ⟨hla, rd_tail hl92 hnb, ?_, by simp [hko], by omega⟩
                 have hq : la = [] ∨ ∃ x, la[0]? = some x ∧ x87.size < x.size := by
                   first
                     | exact .inl (List.eq_nil_of_length_eq_zero (by omega))
                     | (obtain rfl := Option.some.inj (hx76.symm.trans hx87)
                        exact .inr ⟨_, hx80, hc70⟩)
                 rw [hP, mg_right hx87 hq, List.append_assoc]
                 rfl)
              | (change _ at hx32
                 rw [ela, elb, eo]
                 refine ⟨rd_tail hl39 hna, rd_tail hl41 hnb, ?_, by simp [hko], by omega⟩
                 obtain rfl := Option.some.inj (hx52.symm.trans hx24)
                 obtain rfl := Option.some.inj (hx56.symm.trans hx28)
                 obtain rfl := Option.some.inj (hx76.symm.trans hx28)
                 obtain rfl := Option.some.inj (hx80.symm.trans hx24)
                 obtain rfl := Option.some.inj (hx28.symm.trans hx32)
                 rw [hP, mg_both hx24 hx28 hc42 hc70, if_pos hc30, List.append_assoc]
                 rfl)
              | (change _ at hx24
                 rw [ela, elb, eo]
                 refine ⟨rd_tail hl39 hna, rd_tail hl41 hnb, ?_, by simp [hko], by omega⟩
                 obtain rfl := Option.some.inj (hx52.symm.trans hx24)
                 obtain rfl := Option.some.inj (hx56.symm.trans hx28)
                 obtain rfl := Option.some.inj (hx76.symm.trans hx28)
                 obtain rfl := Option.some.inj (hx80.symm.trans hx24)
                 rw [hP, mg_both hx24 hx28 hc42 hc70, if_neg (by rw [hc30]; simp), List.append_assoc]
                 rfl)
           ·try dsimp only
            omega
          ·refine wp_skip' (to_k0 (fun _ _ h => h) (hK22 _ _ _ _ _ ?_))
           clear hK22
           refine wp_rega [(999, [(8, _)]), (3, [(7, _)])] (by kernel_rfl) ⟨.inr (subH_same rfl subH_nil), ⟨.inr (subH_same rfl subH_nil), trivial⟩⟩ ?_
           refine aq_r 0 999 rfl (by kernel_rfl) (by kernel_rfl) (by kernel_rfl) (.head _) (by kernel_rfl) (by kernel_rfl) rfl (r_move rfl) ?_
           refine aq_r 1 999 rfl (by kernel_rfl) (by kernel_rfl) (by kernel_rfl) (.head _) (by kernel_rfl) (by kernel_rfl) rfl (r_lda (id := 8) (n := 4) rfl rfl rfl ag24) ?_
           refine aq_r 4 999 rfl (by kernel_rfl) (by kernel_rfl) (by kernel_rfl) (.head _) (by kernel_rfl) (by kernel_rfl) rfl (r_move rfl) ?_
           refine aq_slr 5 999 rfl (by kernel_rfl) (by kernel_rfl) (by kernel_rfl) (.head _) (by kernel_rfl) (by kernel_rfl) rfl hla rfl rfl rfl sl38 (by simp only [Option.getD_some, Option.getD_none]; omega) fun a39 c39 hl39 => ?_
           try simp only [Option.getD_some, Option.getD_none] at hl39 ⊢
           refine aq_r 6 999 rfl (by kernel_rfl) (by kernel_rfl) (by kernel_rfl) (.head _) (by kernel_rfl) (by kernel_rfl) rfl (r_move rfl) ?_
           refine aq_slr 7 999 rfl (by kernel_rfl) (by kernel_rfl) (by kernel_rfl) (.head _) (by kernel_rfl) (by kernel_rfl) rfl hlb rfl rfl rfl sl38 (by simp only [Option.getD_some, Option.getD_none]; omega) fun a41 c41 hl41 => ?_
           try simp only [Option.getD_some, Option.getD_none] at hl41 ⊢
           refine aq_one (i := 2) (by kernel_rfl) rfl fun K26 hK26 => ?_
           refine ol_bs1 36 rfl rfl rw38 rfl rfl rfl fun a36 => ?_
           refine ol_nil (to_k0 (fun _ _ h => h) (hK26 _ _ ⟨.inr (by repeat' first | exact subH_nil | refine subH_same rfl ?_ | (refine subH_blk rfl (by repeat' first | exact sub_nil | refine sub_cons rfl ?_) ?_)), ⟨.inr (by repeat' first | exact subH_nil | refine subH_same rfl ?_ | (refine subH_blk rfl (by repeat' first | exact sub_nil | refine sub_cons rfl ?_) ?_)), trivial⟩⟩ ?_))
           clear hK26
           refine aq_one (i := 3) (by kernel_rfl) rfl fun K27 hK27 => ?_
           refine ol_append1 (id := 7) (id2 := 36) rfl rfl rfl rfl rfl rw38 (by omega) rfl fun a37 c37 => ?_
           refine ol_nil (to_k0 (fun _ _ h => h) (hK27 _ _ ⟨.inr (by repeat' first | exact subH_nil | refine subH_same rfl ?_ | (refine subH_blk rfl (by repeat' first | exact sub_nil | refine sub_cons rfl ?_) ?_)), ⟨.inl (by kernel_rfl), trivial⟩⟩ ?_))
           clear hK27
           first
             | (change _ at hx64
                obtain ⟨la', ela⟩ : ∃ l, l = la.drop 1 := ⟨_, rfl⟩
                obtain ⟨lb', elb⟩ : ∃ l, l = lb := ⟨_, rfl⟩
                obtain ⟨out', eo⟩ : ∃ l, l = out ++ [x64] := ⟨_, rfl⟩)
             | (change _ at hx87
                obtain ⟨la', ela⟩ : ∃ l, l = la := ⟨_, rfl⟩
                obtain ⟨lb', elb⟩ : ∃ l, l = lb.drop 1 := ⟨_, rfl⟩
                obtain ⟨out', eo⟩ : ∃ l, l = out ++ [x87] := ⟨_, rfl⟩)
             | (change _ at hx32
                obtain ⟨la', ela⟩ : ∃ l, l = la.drop 1 := ⟨_, rfl⟩
                obtain ⟨lb', elb⟩ : ∃ l, l = lb.drop 1 := ⟨_, rfl⟩
                obtain ⟨out', eo⟩ : ∃ l, l = out ++ [x32] := ⟨_, rfl⟩)
             | (change _ at hx24
                obtain ⟨la', ela⟩ : ∃ l, l = la.drop 1 := ⟨_, rfl⟩
                obtain ⟨lb', elb⟩ : ∃ l, l = lb.drop 1 := ⟨_, rfl⟩
                obtain ⟨out', eo⟩ : ∃ l, l = out ++ [x24] := ⟨_, rfl⟩)
             | skip
           refine aq_r 8 999 rfl (by kernel_rfl) (by kernel_rfl) (by kernel_rfl) (.head _) (by kernel_rfl) (by kernel_rfl) rfl (r_assign rfl) ?_
           refine aq_r 9 999 rfl (by kernel_rfl) (by kernel_rfl) (by kernel_rfl) (.head _) (by kernel_rfl) (by kernel_rfl) rfl (r_assign rfl) ?_
           refine aq_r 10 999 rfl (by kernel_rfl) (by kernel_rfl) (by kernel_rfl) (.head _) (by kernel_rfl) (by kernel_rfl) rfl (r_assign rfl) ?_
           refine aq_done (by kernel_rfl) ?_
           refine (to_k0 (fun _ _ h => h) (hK8 (((_, _, _, la'), (_, _, _, lb'), _, _, _, out')) _ _ ?_ ?_ (sub_cons rfl (sub_cons rfl (sub_cons rfl sub_nil))) (sub_cons rfl (sub_cons rfl sub_nil)) (by exact (subH_row rfl (by first | (dsimp only; rw [eo, encBest_snoc]; rfl; done) | (rw [eo, encBest_snoc]; rfl; done) | (dsimp only; done)) subH_nil)) subH_nil))
           ·try dsimp only
            first
              | (exfalso; omega)
              | (change _ at hx64
                 rw [ela, elb, eo]
                 refine ⟨rd_tail hl69 hna, hlb, ?_, by simp [hko], by omega⟩
                 have hq : lb = [] ∨ ∃ y, lb[0]? = some y ∧ x64.size < y.size := by
                   first
                     | exact .inl (List.eq_nil_of_length_eq_zero (by omega))
                     | (obtain rfl := Option.some.inj (hx52.symm.trans hx64)
                        exact .inr ⟨_, hx56, hc42⟩)
                 rw [hP, mg_left hx64 hq, List.append_assoc]
                 rfl)
              | (change _ at hx87
                 rw [ela, elb, eo]
                 refine ⟨hla, rd_tail hl92 hnb, ?_, by simp [hko], by omega⟩
                 have hq : la = [] ∨ ∃ x, la[0]? = some x ∧ x87.size < x.size := by
                   first
                     | exact .inl (List.eq_nil_of_length_eq_zero (by omega))
                     | (obtain rfl := Option.some.inj (hx76.symm.trans hx87)
                        exact .inr ⟨_, hx80, hc70⟩)
                 rw [hP, mg_right hx87 hq, List.append_assoc]
                 rfl)
              | (change _ at hx32
                 rw [ela, elb, eo]
                 refine ⟨rd_tail hl39 hna, rd_tail hl41 hnb, ?_, by simp [hko], by omega⟩
                 obtain rfl := Option.some.inj (hx52.symm.trans hx24)
                 obtain rfl := Option.some.inj (hx56.symm.trans hx28)
                 obtain rfl := Option.some.inj (hx76.symm.trans hx28)
                 obtain rfl := Option.some.inj (hx80.symm.trans hx24)
                 obtain rfl := Option.some.inj (hx28.symm.trans hx32)
                 rw [hP, mg_both hx24 hx28 hc42 hc70, if_pos hc30, List.append_assoc]
                 rfl)
              | (change _ at hx24
                 rw [ela, elb, eo]
                 refine ⟨rd_tail hl39 hna, rd_tail hl41 hnb, ?_, by simp [hko], by omega⟩
                 obtain rfl := Option.some.inj (hx52.symm.trans hx24)
                 obtain rfl := Option.some.inj (hx56.symm.trans hx28)
                 obtain rfl := Option.some.inj (hx76.symm.trans hx28)
                 obtain rfl := Option.some.inj (hx80.symm.trans hx24)
                 rw [hP, mg_both hx24 hx28 hc42 hc70, if_neg (by rw [hc30]; simp), List.append_assoc]
                 rfl)
           ·try dsimp only
            omega
      ·have phs50 := hs50; try simp only [decide_eq_true_eq, decide_eq_false_iff_not, Bool.not_eq_true', Bool.not_eq_false', Bool.not_true, Bool.not_false] at phs50
       refine ql_s rfl rfl hs50 rfl ?_
       refine ql_s rfl rfl hs50 rfl ?_
       refine ql_s rfl rfl hs50 rfl ?_
       refine ql_s rfl rfl hs50 rfl ?_
       refine ql_s rfl rfl hs50 rfl ?_
       refine ql_s rfl rfl hs50 rfl ?_
       refine ql_s rfl rfl hs50 rfl ?_
       refine ql_s rfl rfl hs50 rfl ?_
       refine ql_s rfl rfl hs50 rfl ?_
       refine ql_g rfl rfl hs46 ?_
       refine ql_r (r_pickF rfl hs50 rfl) rfl ?_
       refine ql_r (r_pickF rfl hs46 rfl) rfl ?_
       refine ql_r (r_assign rfl) rfl ?_
       refine ql_nil (to_k0 (fun _ _ h => h) (hK11 _ _ _ _ _ ?_))
       clear hK11
       refine wp_condF rfl ?_
       refine wp_seq' fun K28 hK28 => ?_
       refine wp_regq (by kernel_rfl) (by kernel_rfl) ?_
       refine ql_r (r_move rfl) rfl ?_
       refine ql_r (r_len rfl sl38) rfl ?_
       refine ql_r (r_eql rfl rfl) rfl ?_
       refine ql_r (r_move rfl) rfl ?_
       refine ql_split (d := 74) rfl (fun hs74 => ?_) (fun hs74 => ?_)
       ·have phs74 := hs74; try simp only [decide_eq_true_eq, decide_eq_false_iff_not, Bool.not_eq_true', Bool.not_eq_false', Bool.not_true, Bool.not_false] at phs74
        refine ql_s rfl rfl hs74 rfl ?_
        refine ql_s rfl rfl hs74 rfl ?_
        refine ql_s rfl rfl hs74 rfl ?_
        refine ql_s rfl rfl hs74 rfl ?_
        refine ql_s rfl rfl hs74 rfl ?_
        refine ql_s rfl rfl hs74 rfl ?_
        refine ql_s rfl rfl hs74 rfl ?_
        refine ql_s rfl rfl hs74 rfl ?_
        refine ql_s rfl rfl hs74 rfl ?_
        refine ql_r (r_pickT rfl hs74 rfl) rfl ?_
        refine ql_r (r_assign rfl) rfl ?_
        refine ql_nil (to_k0 (fun _ _ h => h) (hK28 _ _ _ _ _ ?_))
        clear hK28
        refine wp_condT rfl ?_
        refine wp_rega [(999, []), (5, [(7, _)])] (by kernel_rfl) ⟨.inr subH_nil, ⟨.inr (subH_same rfl subH_nil), trivial⟩⟩ ?_
        refine aq_r 0 999 rfl (by kernel_rfl) (by kernel_rfl) (by kernel_rfl) (.head _) (by kernel_rfl) (by kernel_rfl) rfl (r_move rfl) ?_
        refine aq_r 1 999 rfl (by kernel_rfl) (by kernel_rfl) (by kernel_rfl) (.head _) (by kernel_rfl) (by kernel_rfl) rfl (r_move rfl) ?_
        refine aq_ixr 2 999 rfl (by kernel_rfl) (by kernel_rfl) (by kernel_rfl) (.head _) (by kernel_rfl) (by kernel_rfl) rfl hlb rfl rfl sl38 (by omega) fun x87 hx87 => ?_
        try simp only [Int.toNat_natCast] at hx87
        refine aq_r 3 999 rfl (by kernel_rfl) (by kernel_rfl) (by kernel_rfl) (.head _) (by kernel_rfl) (by kernel_rfl) rfl (r_ldw rfl (fun w1 hb1 hs1 hB1 => Rd.loads hlb ty24 hx87 hb1)) ?_
        refine aq_r 6 999 rfl (by kernel_rfl) (by kernel_rfl) (by kernel_rfl) (.head _) (by kernel_rfl) (by kernel_rfl) rfl (r_move rfl) ?_
        refine aq_slr 7 999 rfl (by kernel_rfl) (by kernel_rfl) (by kernel_rfl) (.head _) (by kernel_rfl) (by kernel_rfl) rfl hlb rfl rfl rfl sl38 (by simp only [Option.getD_some, Option.getD_none]; omega) fun a92 c92 hl92 => ?_
        try simp only [Option.getD_some, Option.getD_none] at hl92 ⊢
        refine aq_one (i := 4) (by kernel_rfl) rfl fun K29 hK29 => ?_
        refine ol_bs1 89 rfl rfl rw38 rfl rfl rfl fun a89 => ?_
        refine ol_nil (to_k0 (fun _ _ h => h) (hK29 _ _ ⟨.inr (by repeat' first | exact subH_nil | refine subH_same rfl ?_ | (refine subH_blk rfl (by repeat' first | exact sub_nil | refine sub_cons rfl ?_) ?_)), ⟨.inr (by repeat' first | exact subH_nil | refine subH_same rfl ?_ | (refine subH_blk rfl (by repeat' first | exact sub_nil | refine sub_cons rfl ?_) ?_)), trivial⟩⟩ ?_))
        clear hK29
        refine aq_one (i := 5) (by kernel_rfl) rfl fun K30 hK30 => ?_
        refine ol_append1 (id := 7) (id2 := 89) rfl rfl rfl rfl rfl rw38 (by omega) rfl fun a90 c90 => ?_
        refine ol_nil (to_k0 (fun _ _ h => h) (hK30 _ _ ⟨.inr (by repeat' first | exact subH_nil | refine subH_same rfl ?_ | (refine subH_blk rfl (by repeat' first | exact sub_nil | refine sub_cons rfl ?_) ?_)), ⟨.inl (by kernel_rfl), trivial⟩⟩ ?_))
        clear hK30
        first
          | (change _ at hx64
             obtain ⟨la', ela⟩ : ∃ l, l = la.drop 1 := ⟨_, rfl⟩
             obtain ⟨lb', elb⟩ : ∃ l, l = lb := ⟨_, rfl⟩
             obtain ⟨out', eo⟩ : ∃ l, l = out ++ [x64] := ⟨_, rfl⟩)
          | (change _ at hx87
             obtain ⟨la', ela⟩ : ∃ l, l = la := ⟨_, rfl⟩
             obtain ⟨lb', elb⟩ : ∃ l, l = lb.drop 1 := ⟨_, rfl⟩
             obtain ⟨out', eo⟩ : ∃ l, l = out ++ [x87] := ⟨_, rfl⟩)
          | (change _ at hx32
             obtain ⟨la', ela⟩ : ∃ l, l = la.drop 1 := ⟨_, rfl⟩
             obtain ⟨lb', elb⟩ : ∃ l, l = lb.drop 1 := ⟨_, rfl⟩
             obtain ⟨out', eo⟩ : ∃ l, l = out ++ [x32] := ⟨_, rfl⟩)
          | (change _ at hx24
             obtain ⟨la', ela⟩ : ∃ l, l = la.drop 1 := ⟨_, rfl⟩
             obtain ⟨lb', elb⟩ : ∃ l, l = lb.drop 1 := ⟨_, rfl⟩
             obtain ⟨out', eo⟩ : ∃ l, l = out ++ [x24] := ⟨_, rfl⟩)
          | skip
        refine aq_r 8 999 rfl (by kernel_rfl) (by kernel_rfl) (by kernel_rfl) (.head _) (by kernel_rfl) (by kernel_rfl) rfl (r_assign rfl) ?_
        refine aq_r 9 999 rfl (by kernel_rfl) (by kernel_rfl) (by kernel_rfl) (.head _) (by kernel_rfl) (by kernel_rfl) rfl (r_assign rfl) ?_
        refine aq_done (by kernel_rfl) ?_
        refine (to_k0 (fun _ _ h => h) (hK8 (((_, _, _, la'), (_, _, _, lb'), _, _, _, out')) _ _ ?_ ?_ (sub_cons rfl (sub_cons rfl (sub_cons rfl sub_nil))) (sub_cons rfl (sub_cons rfl sub_nil)) (by exact (subH_row rfl (by first | (dsimp only; rw [eo, encBest_snoc]; rfl; done) | (rw [eo, encBest_snoc]; rfl; done) | (dsimp only; done)) subH_nil)) subH_nil))
        ·try dsimp only
         first
           | (exfalso; omega)
           | (change _ at hx64
              rw [ela, elb, eo]
              refine ⟨rd_tail hl69 hna, hlb, ?_, by simp [hko], by omega⟩
              have hq : lb = [] ∨ ∃ y, lb[0]? = some y ∧ x64.size < y.size := by
                first
                  | exact .inl (List.eq_nil_of_length_eq_zero (by omega))
                  | (obtain rfl := Option.some.inj (hx52.symm.trans hx64)
                     exact .inr ⟨_, hx56, hc42⟩)
              rw [hP, mg_left hx64 hq, List.append_assoc]
              rfl)
           | (change _ at hx87
              rw [ela, elb, eo]
              refine ⟨hla, rd_tail hl92 hnb, ?_, by simp [hko], by omega⟩
              have hq : la = [] ∨ ∃ x, la[0]? = some x ∧ x87.size < x.size := by
                first
                  | exact .inl (List.eq_nil_of_length_eq_zero (by omega))
                  | (obtain rfl := Option.some.inj (hx76.symm.trans hx87)
                     exact .inr ⟨_, hx80, hc70⟩)
              rw [hP, mg_right hx87 hq, List.append_assoc]
              rfl)
           | (change _ at hx32
              rw [ela, elb, eo]
              refine ⟨rd_tail hl39 hna, rd_tail hl41 hnb, ?_, by simp [hko], by omega⟩
              obtain rfl := Option.some.inj (hx52.symm.trans hx24)
              obtain rfl := Option.some.inj (hx56.symm.trans hx28)
              obtain rfl := Option.some.inj (hx76.symm.trans hx28)
              obtain rfl := Option.some.inj (hx80.symm.trans hx24)
              obtain rfl := Option.some.inj (hx28.symm.trans hx32)
              rw [hP, mg_both hx24 hx28 hc42 hc70, if_pos hc30, List.append_assoc]
              rfl)
           | (change _ at hx24
              rw [ela, elb, eo]
              refine ⟨rd_tail hl39 hna, rd_tail hl41 hnb, ?_, by simp [hko], by omega⟩
              obtain rfl := Option.some.inj (hx52.symm.trans hx24)
              obtain rfl := Option.some.inj (hx56.symm.trans hx28)
              obtain rfl := Option.some.inj (hx76.symm.trans hx28)
              obtain rfl := Option.some.inj (hx80.symm.trans hx24)
              rw [hP, mg_both hx24 hx28 hc42 hc70, if_neg (by rw [hc30]; simp), List.append_assoc]
              rfl)
        ·try dsimp only
         omega
       ·have phs74 := hs74; try simp only [decide_eq_true_eq, decide_eq_false_iff_not, Bool.not_eq_true', Bool.not_eq_false', Bool.not_true, Bool.not_false] at phs74
        refine ql_g rfl rfl hs74 ?_
        refine ql_r (r_move rfl) rfl ?_
        refine ql_g rfl rfl hs74 ?_
        refine ql_ixr hlb rfl rfl sl38 (by omega) rfl fun x76 hx76 => ?_
        try simp only [Int.toNat_natCast] at hx76
        refine ql_g rfl rfl hs74 ?_
        refine ql_r (r_faw rfl (ix_some hlb (by omega)) fl24_0) rfl ?_
        refine ql_g rfl rfl hs74 ?_
        refine ql_r (r_ldw rfl (fun w1 hb1 hs1 hB1 => Rd.loadsF (o := 0) hlb sc3 hx76 hb1 rfl)) rfl ?_
        refine ql_g rfl rfl hs74 ?_
        refine ql_r (r_move rfl) rfl ?_
        refine ql_g rfl rfl hs74 ?_
        refine ql_ixr hla rfl rfl sl38 (by omega) rfl fun x80 hx80 => ?_
        try simp only [Int.toNat_natCast] at hx80
        refine ql_g rfl rfl hs74 ?_
        refine ql_r (r_faw rfl (ix_some hla (by omega)) fl24_0) rfl ?_
        refine ql_g rfl rfl hs74 ?_
        refine ql_r (r_ldw rfl (fun w1 hb1 hs1 hB1 => Rd.loadsF (o := 0) hla sc3 hx80 hb1 rfl)) rfl ?_
        refine ql_g rfl rfl hs74 ?_
        refine ql_r (r_lss rfl rfl) rfl ?_
        refine ql_r (r_pickF rfl hs74 rfl) rfl ?_
        refine ql_r (r_assign rfl) rfl ?_
        refine ql_nil (to_k0 (fun _ _ h => h) (hK28 _ _ _ _ _ ?_))
        clear hK28
        first | refine wp_condD rfl (fun hc70 => ?_) (fun hc70 => ?_) | refine wp_condN rfl (fun hc70 => ?_) (fun hc70 => ?_) | refine wp_condNB rfl (fun hc70 => ?_) (fun hc70 => ?_) | refine wp_cond' rfl (fun hc70 => ?_) (fun hc70 => ?_)
        ·refine wp_rega [(999, []), (5, [(7, _)])] (by kernel_rfl) ⟨.inr subH_nil, ⟨.inr (subH_same rfl subH_nil), trivial⟩⟩ ?_
         refine aq_r 0 999 rfl (by kernel_rfl) (by kernel_rfl) (by kernel_rfl) (.head _) (by kernel_rfl) (by kernel_rfl) rfl (r_move rfl) ?_
         refine aq_r 1 999 rfl (by kernel_rfl) (by kernel_rfl) (by kernel_rfl) (.head _) (by kernel_rfl) (by kernel_rfl) rfl (r_move rfl) ?_
         refine aq_ixr 2 999 rfl (by kernel_rfl) (by kernel_rfl) (by kernel_rfl) (.head _) (by kernel_rfl) (by kernel_rfl) rfl hlb rfl rfl sl38 (by omega) fun x87 hx87 => ?_
         try simp only [Int.toNat_natCast] at hx87
         refine aq_r 3 999 rfl (by kernel_rfl) (by kernel_rfl) (by kernel_rfl) (.head _) (by kernel_rfl) (by kernel_rfl) rfl (r_ldw rfl (fun w1 hb1 hs1 hB1 => Rd.loads hlb ty24 hx87 hb1)) ?_
         refine aq_r 6 999 rfl (by kernel_rfl) (by kernel_rfl) (by kernel_rfl) (.head _) (by kernel_rfl) (by kernel_rfl) rfl (r_move rfl) ?_
         refine aq_slr 7 999 rfl (by kernel_rfl) (by kernel_rfl) (by kernel_rfl) (.head _) (by kernel_rfl) (by kernel_rfl) rfl hlb rfl rfl rfl sl38 (by simp only [Option.getD_some, Option.getD_none]; omega) fun a92 c92 hl92 => ?_
         try simp only [Option.getD_some, Option.getD_none] at hl92 ⊢
         refine aq_one (i := 4) (by kernel_rfl) rfl fun K31 hK31 => ?_
         refine ol_bs1 89 rfl rfl rw38 rfl rfl rfl fun a89 => ?_
         refine ol_nil (to_k0 (fun _ _ h => h) (hK31 _ _ ⟨.inr (by repeat' first | exact subH_nil | refine subH_same rfl ?_ | (refine subH_blk rfl (by repeat' first | exact sub_nil | refine sub_cons rfl ?_) ?_)), ⟨.inr (by repeat' first | exact subH_nil | refine subH_same rfl ?_ | (refine subH_blk rfl (by repeat' first | exact sub_nil | refine sub_cons rfl ?_) ?_)), trivial⟩⟩ ?_))
         clear hK31
         refine aq_one (i := 5) (by kernel_rfl) rfl fun K32 hK32 => ?_
         refine ol_append1 (id := 7) (id2 := 89) rfl rfl rfl rfl rfl rw38 (by omega) rfl fun a90 c90 => ?_
         refine ol_nil (to_k0 (fun _ _ h => h) (hK32 _ _ ⟨.inr (by repeat' first | exact subH_nil | refine subH_same rfl ?_ | (refine subH_blk rfl (by repeat' first | exact sub_nil | refine sub_cons rfl ?_) ?_)), ⟨.inl (by kernel_rfl), trivial⟩⟩ ?_))
         clear hK32
         first
           | (change _ at hx64
              obtain ⟨la', ela⟩ : ∃ l, l = la.drop 1 := ⟨_, rfl⟩
              obtain ⟨lb', elb⟩ : ∃ l, l = lb := ⟨_, rfl⟩
              obtain ⟨out', eo⟩ : ∃ l, l = out ++ [x64] := ⟨_, rfl⟩)
           | (change _ at hx87
              obtain ⟨la', ela⟩ : ∃ l, l = la := ⟨_, rfl⟩
              obtain ⟨lb', elb⟩ : ∃ l, l = lb.drop 1 := ⟨_, rfl⟩
              obtain ⟨out', eo⟩ : ∃ l, l = out ++ [x87] := ⟨_, rfl⟩)
           | (change _ at hx32
              obtain ⟨la', ela⟩ : ∃ l, l = la.drop 1 := ⟨_, rfl⟩
              obtain ⟨lb', elb⟩ : ∃ l, l = lb.drop 1 := ⟨_, rfl⟩
              obtain ⟨out', eo⟩ : ∃ l, l = out ++ [x32] := ⟨_, rfl⟩)
           | (change _ at hx24
              obtain ⟨la', ela⟩ : ∃ l, l = la.drop 1 := ⟨_, rfl⟩
              obtain ⟨lb', elb⟩ : ∃ l, l = lb.drop 1 := ⟨_, rfl⟩
              obtain ⟨out', eo⟩ : ∃ l, l = out ++ [x24] := ⟨_, rfl⟩)
           | skip
         refine aq_r 8 999 rfl (by kernel_rfl) (by kernel_rfl) (by kernel_rfl) (.head _) (by kernel_rfl) (by kernel_rfl) rfl (r_assign rfl) ?_
         refine aq_r 9 999 rfl (by kernel_rfl) (by kernel_rfl) (by kernel_rfl) (.head _) (by kernel_rfl) (by kernel_rfl) rfl (r_assign rfl) ?_
         refine aq_done (by kernel_rfl) ?_
         refine (to_k0 (fun _ _ h => h) (hK8 (((_, _, _, la'), (_, _, _, lb'), _, _, _, out')) _ _ ?_ ?_ (sub_cons rfl (sub_cons rfl (sub_cons rfl sub_nil))) (sub_cons rfl (sub_cons rfl sub_nil)) (by exact (subH_row rfl (by first | (dsimp only; rw [eo, encBest_snoc]; rfl; done) | (rw [eo, encBest_snoc]; rfl; done) | (dsimp only; done)) subH_nil)) subH_nil))
         ·try dsimp only
          first
            | (exfalso; omega)
            | (change _ at hx64
               rw [ela, elb, eo]
               refine ⟨rd_tail hl69 hna, hlb, ?_, by simp [hko], by omega⟩
               have hq : lb = [] ∨ ∃ y, lb[0]? = some y ∧ x64.size < y.size := by
                 first
                   | exact .inl (List.eq_nil_of_length_eq_zero (by omega))
                   | (obtain rfl := Option.some.inj (hx52.symm.trans hx64)
                      exact .inr ⟨_, hx56, hc42⟩)
               rw [hP, mg_left hx64 hq, List.append_assoc]
               rfl)
            | (change _ at hx87
               rw [ela, elb, eo]
               refine ⟨hla, rd_tail hl92 hnb, ?_, by simp [hko], by omega⟩
               have hq : la = [] ∨ ∃ x, la[0]? = some x ∧ x87.size < x.size := by
                 first
                   | exact .inl (List.eq_nil_of_length_eq_zero (by omega))
                   | (obtain rfl := Option.some.inj (hx76.symm.trans hx87)
                      exact .inr ⟨_, hx80, hc70⟩)
               rw [hP, mg_right hx87 hq, List.append_assoc]
               rfl)
            | (change _ at hx32
               rw [ela, elb, eo]
               refine ⟨rd_tail hl39 hna, rd_tail hl41 hnb, ?_, by simp [hko], by omega⟩
               obtain rfl := Option.some.inj (hx52.symm.trans hx24)
               obtain rfl := Option.some.inj (hx56.symm.trans hx28)
               obtain rfl := Option.some.inj (hx76.symm.trans hx28)
               obtain rfl := Option.some.inj (hx80.symm.trans hx24)
               obtain rfl := Option.some.inj (hx28.symm.trans hx32)
               rw [hP, mg_both hx24 hx28 hc42 hc70, if_pos hc30, List.append_assoc]
               rfl)
            | (change _ at hx24
               rw [ela, elb, eo]
               refine ⟨rd_tail hl39 hna, rd_tail hl41 hnb, ?_, by simp [hko], by omega⟩
               obtain rfl := Option.some.inj (hx52.symm.trans hx24)
               obtain rfl := Option.some.inj (hx56.symm.trans hx28)
               obtain rfl := Option.some.inj (hx76.symm.trans hx28)
               obtain rfl := Option.some.inj (hx80.symm.trans hx24)
               rw [hP, mg_both hx24 hx28 hc42 hc70, if_neg (by rw [hc30]; simp), List.append_assoc]
               rfl)
         ·try dsimp only
          omega
        ·refine wp_seq' fun K33 hK33 => ?_
         refine wp_reg ?_
         refine ol_r (r_move rfl) rfl ?_
         refine ol_ixr hla rfl rfl sl38 (by omega) rfl fun x24 hx24 => ?_
         try simp only [Int.toNat_natCast] at hx24
         refine ol_r (r_ldw rfl (fun w1 hb1 hs1 hB1 => Rd.loads hla ty24 hx24 hb1)) rfl ?_
         refine ol_alloc 8 z24 rfl fun b8 => ?_
         refine ol_store (id := 8) rfl rfl rfl rfl sz24 rfl rfl (by first | decide | exact Nat.zero_lt_succ _ | simp) ?_
         refine ol_nil (to_k0 (fun _ _ h => h) (hK33 _ _ _ _ _ ?_))
         clear hK33
         refine wp_seq' fun K34 hK34 => ?_
         refine wp_seq' fun K35 hK35 => ?_
         refine wp_regq (by kernel_rfl) (by kernel_rfl) ?_
         refine ql_r (r_lda (id := 8) (n := 4) rfl rfl rfl ag24) rfl ?_
         refine ql_r (r_move rfl) rfl ?_
         refine ql_ixr hlb rfl rfl sl38 (by omega) rfl fun x28 hx28 => ?_
         try simp only [Int.toNat_natCast] at hx28
         refine ql_r (r_ldw rfl (fun w1 hb1 hs1 hB1 => Rd.loads hlb ty24 hx28 hb1)) rfl ?_
         refine ql_call rfl rfl cb100 rfl (fun w1 hb1 hs1 hB1 => ref4_less x24 x28 _) ?_
         refine ql_nil (to_k0 (fun _ _ h => h) (hK35 _ _ _ _ _ ?_))
         clear hK35
         first | refine wp_condD rfl (fun hc30 => ?_) (fun hc30 => ?_) | refine wp_condN rfl (fun hc30 => ?_) (fun hc30 => ?_) | refine wp_condNB rfl (fun hc30 => ?_) (fun hc30 => ?_) | refine wp_cond' rfl (fun hc30 => ?_) (fun hc30 => ?_)
         ·refine wp_reg ?_
          refine ol_r (r_move rfl) rfl ?_
          refine ol_ixr hlb rfl rfl sl38 (by omega) rfl fun x32 hx32 => ?_
          try simp only [Int.toNat_natCast] at hx32
          refine ol_r (r_ldw rfl (fun w1 hb1 hs1 hB1 => Rd.loads hlb ty24 hx32 hb1)) rfl ?_
          refine ol_store (id := 8) rfl rfl rfl rfl sz24 rfl rfl (by first | decide | exact Nat.zero_lt_succ _ | simp) ?_
          refine ol_nil (to_k0 (fun _ _ h => h) (hK34 _ _ _ _ _ ?_))
          clear hK34
          refine wp_rega [(999, [(8, _)]), (3, [(7, _)])] (by kernel_rfl) ⟨.inr (subH_same rfl subH_nil), ⟨.inr (subH_same rfl subH_nil), trivial⟩⟩ ?_
          refine aq_r 0 999 rfl (by kernel_rfl) (by kernel_rfl) (by kernel_rfl) (.head _) (by kernel_rfl) (by kernel_rfl) rfl (r_move rfl) ?_
          refine aq_r 1 999 rfl (by kernel_rfl) (by kernel_rfl) (by kernel_rfl) (.head _) (by kernel_rfl) (by kernel_rfl) rfl (r_lda (id := 8) (n := 4) rfl rfl rfl ag24) ?_
          refine aq_r 4 999 rfl (by kernel_rfl) (by kernel_rfl) (by kernel_rfl) (.head _) (by kernel_rfl) (by kernel_rfl) rfl (r_move rfl) ?_
          refine aq_slr 5 999 rfl (by kernel_rfl) (by kernel_rfl) (by kernel_rfl) (.head _) (by kernel_rfl) (by kernel_rfl) rfl hla rfl rfl rfl sl38 (by simp only [Option.getD_some, Option.getD_none]; omega) fun a39 c39 hl39 => ?_
          try simp only [Option.getD_some, Option.getD_none] at hl39 ⊢
          refine aq_r 6 999 rfl (by kernel_rfl) (by kernel_rfl) (by kernel_rfl) (.head _) (by kernel_rfl) (by kernel_rfl) rfl (r_move rfl) ?_
          refine aq_slr 7 999 rfl (by kernel_rfl) (by kernel_rfl) (by kernel_rfl) (.head _) (by kernel_rfl) (by kernel_rfl) rfl hlb rfl rfl rfl sl38 (by simp only [Option.getD_some, Option.getD_none]; omega) fun a41 c41 hl41 => ?_
          try simp only [Option.getD_some, Option.getD_none] at hl41 ⊢
          refine aq_one (i := 2) (by kernel_rfl) rfl fun K36 hK36 => ?_
          refine ol_bs1 36 rfl rfl rw38 rfl rfl rfl fun a36 => ?_
          refine ol_nil (to_k0 (fun _ _ h => h) (hK36 _ _ ⟨.inr (by repeat' first | exact subH_nil | refine subH_same rfl ?_ | (refine subH_blk rfl (by repeat' first | exact sub_nil | refine sub_cons rfl ?_) ?_)), ⟨.inr (by repeat' first | exact subH_nil | refine subH_same rfl ?_ | (refine subH_blk rfl (by repeat' first | exact sub_nil | refine sub_cons rfl ?_) ?_)), trivial⟩⟩ ?_))
          clear hK36
          refine aq_one (i := 3) (by kernel_rfl) rfl fun K37 hK37 => ?_
          refine ol_append1 (id := 7) (id2 := 36) rfl rfl rfl rfl rfl rw38 (by omega) rfl fun a37 c37 => ?_
          refine ol_nil (to_k0 (fun _ _ h => h) (hK37 _ _ ⟨.inr (by repeat' first | exact subH_nil | refine subH_same rfl ?_ | (refine subH_blk rfl (by repeat' first | exact sub_nil | refine sub_cons rfl ?_) ?_)), ⟨.inl (by kernel_rfl), trivial⟩⟩ ?_))
          clear hK37
          first
            | (change _ at hx64
               obtain ⟨la', ela⟩ : ∃ l, l = la.drop 1 := ⟨_, rfl⟩
               obtain ⟨lb', elb⟩ : ∃ l, l = lb := ⟨_, rfl⟩
               obtain ⟨out', eo⟩ : ∃ l, l = out ++ [x64] := ⟨_, rfl⟩)
            | (change _ at hx87
               obtain ⟨la', ela⟩ : ∃ l, l = la := ⟨_, rfl⟩
               obtain ⟨lb', elb⟩ : ∃ l, l = lb.drop 1 := ⟨_, rfl⟩
               obtain ⟨out', eo⟩ : ∃ l, l = out ++ [x87] := ⟨_, rfl⟩)
            | (change _ at hx32
               obtain ⟨la', ela⟩ : ∃ l, l = la.drop 1 := ⟨_, rfl⟩
               obtain ⟨lb', elb⟩ : ∃ l, l = lb.drop 1 := ⟨_, rfl⟩
               obtain ⟨out', eo⟩ : ∃ l, l = out ++ [x32] := ⟨_, rfl⟩)
            | (change _ at hx24
               obtain ⟨la', ela⟩ : ∃ l, l = la.drop 1 := ⟨_, rfl⟩
               obtain ⟨lb', elb⟩ : ∃ l, l = lb.drop 1 := ⟨_, rfl⟩
               obtain ⟨out', eo⟩ : ∃ l, l = out ++ [x24] := ⟨_, rfl⟩)
            | skip
          refine aq_r 8 999 rfl (by kernel_rfl) (by kernel_rfl) (by kernel_rfl) (.head _) (by kernel_rfl) (by kernel_rfl) rfl (r_assign rfl) ?_
          refine aq_r 9 999 rfl (by kernel_rfl) (by kernel_rfl) (by kernel_rfl) (.head _) (by kernel_rfl) (by kernel_rfl) rfl (r_assign rfl) ?_
          refine aq_r 10 999 rfl (by kernel_rfl) (by kernel_rfl) (by kernel_rfl) (.head _) (by kernel_rfl) (by kernel_rfl) rfl (r_assign rfl) ?_
          refine aq_done (by kernel_rfl) ?_
          refine (to_k0 (fun _ _ h => h) (hK8 (((_, _, _, la'), (_, _, _, lb'), _, _, _, out')) _ _ ?_ ?_ (sub_cons rfl (sub_cons rfl (sub_cons rfl sub_nil))) (sub_cons rfl (sub_cons rfl sub_nil)) (by exact (subH_row rfl (by first | (dsimp only; rw [eo, encBest_snoc]; rfl; done) | (rw [eo, encBest_snoc]; rfl; done) | (dsimp only; done)) subH_nil)) subH_nil))
          ·try dsimp only
           first
             | (exfalso; omega)
             | (change _ at hx64
                rw [ela, elb, eo]
                refine ⟨rd_tail hl69 hna, hlb, ?_, by simp [hko], by omega⟩
                have hq : lb = [] ∨ ∃ y, lb[0]? = some y ∧ x64.size < y.size := by
                  first
                    | exact .inl (List.eq_nil_of_length_eq_zero (by omega))
                    | (obtain rfl := Option.some.inj (hx52.symm.trans hx64)
                       exact .inr ⟨_, hx56, hc42⟩)
                rw [hP, mg_left hx64 hq, List.append_assoc]
                rfl)
             | (change _ at hx87
                rw [ela, elb, eo]
                refine ⟨hla, rd_tail hl92 hnb, ?_, by simp [hko], by omega⟩
                have hq : la = [] ∨ ∃ x, la[0]? = some x ∧ x87.size < x.size := by
                  first
                    | exact .inl (List.eq_nil_of_length_eq_zero (by omega))
                    | (obtain rfl := Option.some.inj (hx76.symm.trans hx87)
                       exact .inr ⟨_, hx80, hc70⟩)
                rw [hP, mg_right hx87 hq, List.append_assoc]
                rfl)
             | (change _ at hx32
                rw [ela, elb, eo]
                refine ⟨rd_tail hl39 hna, rd_tail hl41 hnb, ?_, by simp [hko], by omega⟩
                obtain rfl := Option.some.inj (hx52.symm.trans hx24)
                obtain rfl := Option.some.inj (hx56.symm.trans hx28)
                obtain rfl := Option.some.inj (hx76.symm.trans hx28)
                obtain rfl := Option.some.inj (hx80.symm.trans hx24)
                obtain rfl := Option.some.inj (hx28.symm.trans hx32)
                rw [hP, mg_both hx24 hx28 hc42 hc70, if_pos hc30, List.append_assoc]
                rfl)
             | (change _ at hx24
                rw [ela, elb, eo]
                refine ⟨rd_tail hl39 hna, rd_tail hl41 hnb, ?_, by simp [hko], by omega⟩
                obtain rfl := Option.some.inj (hx52.symm.trans hx24)
                obtain rfl := Option.some.inj (hx56.symm.trans hx28)
                obtain rfl := Option.some.inj (hx76.symm.trans hx28)
                obtain rfl := Option.some.inj (hx80.symm.trans hx24)
                rw [hP, mg_both hx24 hx28 hc42 hc70, if_neg (by rw [hc30]; simp), List.append_assoc]
                rfl)
          ·try dsimp only
           omega
         ·refine wp_skip' (to_k0 (fun _ _ h => h) (hK34 _ _ _ _ _ ?_))
          clear hK34
          refine wp_rega [(999, [(8, _)]), (3, [(7, _)])] (by kernel_rfl) ⟨.inr (subH_same rfl subH_nil), ⟨.inr (subH_same rfl subH_nil), trivial⟩⟩ ?_
          refine aq_r 0 999 rfl (by kernel_rfl) (by kernel_rfl) (by kernel_rfl) (.head _) (by kernel_rfl) (by kernel_rfl) rfl (r_move rfl) ?_
          refine aq_r 1 999 rfl (by kernel_rfl) (by kernel_rfl) (by kernel_rfl) (.head _) (by kernel_rfl) (by kernel_rfl) rfl (r_lda (id := 8) (n := 4) rfl rfl rfl ag24) ?_
          refine aq_r 4 999 rfl (by kernel_rfl) (by kernel_rfl) (by kernel_rfl) (.head _) (by kernel_rfl) (by kernel_rfl) rfl (r_move rfl) ?_
          refine aq_slr 5 999 rfl (by kernel_rfl) (by kernel_rfl) (by kernel_rfl) (.head _) (by kernel_rfl) (by kernel_rfl) rfl hla rfl rfl rfl sl38 (by simp only [Option.getD_some, Option.getD_none]; omega) fun a39 c39 hl39 => ?_
          try simp only [Option.getD_some, Option.getD_none] at hl39 ⊢
          refine aq_r 6 999 rfl (by kernel_rfl) (by kernel_rfl) (by kernel_rfl) (.head _) (by kernel_rfl) (by kernel_rfl) rfl (r_move rfl) ?_
          refine aq_slr 7 999 rfl (by kernel_rfl) (by kernel_rfl) (by kernel_rfl) (.head _) (by kernel_rfl) (by kernel_rfl) rfl hlb rfl rfl rfl sl38 (by simp only [Option.getD_some, Option.getD_none]; omega) fun a41 c41 hl41 => ?_
          try simp only [Option.getD_some, Option.getD_none] at hl41 ⊢
          refine aq_one (i := 2) (by kernel_rfl) rfl fun K38 hK38 => ?_
          refine ol_bs1 36 rfl rfl rw38 rfl rfl rfl fun a36 => ?_
          refine ol_nil (to_k0 (fun _ _ h => h) (hK38 _ _ ⟨.inr (by repeat' first | exact subH_nil | refine subH_same rfl ?_ | (refine subH_blk rfl (by repeat' first | exact sub_nil | refine sub_cons rfl ?_) ?_)), ⟨.inr (by repeat' first | exact subH_nil | refine subH_same rfl ?_ | (refine subH_blk rfl (by repeat' first | exact sub_nil | refine sub_cons rfl ?_) ?_)), trivial⟩⟩ ?_))
          clear hK38
          refine aq_one (i := 3) (by kernel_rfl) rfl fun K39 hK39 => ?_
          refine ol_append1 (id := 7) (id2 := 36) rfl rfl rfl rfl rfl rw38 (by omega) rfl fun a37 c37 => ?_
          refine ol_nil (to_k0 (fun _ _ h => h) (hK39 _ _ ⟨.inr (by repeat' first | exact subH_nil | refine subH_same rfl ?_ | (refine subH_blk rfl (by repeat' first | exact sub_nil | refine sub_cons rfl ?_) ?_)), ⟨.inl (by kernel_rfl), trivial⟩⟩ ?_))
          clear hK39
          first
            | (change _ at hx64
               obtain ⟨la', ela⟩ : ∃ l, l = la.drop 1 := ⟨_, rfl⟩
               obtain ⟨lb', elb⟩ : ∃ l, l = lb := ⟨_, rfl⟩
               obtain ⟨out', eo⟩ : ∃ l, l = out ++ [x64] := ⟨_, rfl⟩)
            | (change _ at hx87
               obtain ⟨la', ela⟩ : ∃ l, l = la := ⟨_, rfl⟩
               obtain ⟨lb', elb⟩ : ∃ l, l = lb.drop 1 := ⟨_, rfl⟩
               obtain ⟨out', eo⟩ : ∃ l, l = out ++ [x87] := ⟨_, rfl⟩)
            | (change _ at hx32
               obtain ⟨la', ela⟩ : ∃ l, l = la.drop 1 := ⟨_, rfl⟩
               obtain ⟨lb', elb⟩ : ∃ l, l = lb.drop 1 := ⟨_, rfl⟩
               obtain ⟨out', eo⟩ : ∃ l, l = out ++ [x32] := ⟨_, rfl⟩)
            | (change _ at hx24
               obtain ⟨la', ela⟩ : ∃ l, l = la.drop 1 := ⟨_, rfl⟩
               obtain ⟨lb', elb⟩ : ∃ l, l = lb.drop 1 := ⟨_, rfl⟩
               obtain ⟨out', eo⟩ : ∃ l, l = out ++ [x24] := ⟨_, rfl⟩)
            | skip
          refine aq_r 8 999 rfl (by kernel_rfl) (by kernel_rfl) (by kernel_rfl) (.head _) (by kernel_rfl) (by kernel_rfl) rfl (r_assign rfl) ?_
          refine aq_r 9 999 rfl (by kernel_rfl) (by kernel_rfl) (by kernel_rfl) (.head _) (by kernel_rfl) (by kernel_rfl) rfl (r_assign rfl) ?_
          refine aq_r 10 999 rfl (by kernel_rfl) (by kernel_rfl) (by kernel_rfl) (.head _) (by kernel_rfl) (by kernel_rfl) rfl (r_assign rfl) ?_
          refine aq_done (by kernel_rfl) ?_
          refine (to_k0 (fun _ _ h => h) (hK8 (((_, _, _, la'), (_, _, _, lb'), _, _, _, out')) _ _ ?_ ?_ (sub_cons rfl (sub_cons rfl (sub_cons rfl sub_nil))) (sub_cons rfl (sub_cons rfl sub_nil)) (by exact (subH_row rfl (by first | (dsimp only; rw [eo, encBest_snoc]; rfl; done) | (rw [eo, encBest_snoc]; rfl; done) | (dsimp only; done)) subH_nil)) subH_nil))
          ·try dsimp only
           first
             | (exfalso; omega)
             | (change _ at hx64
                rw [ela, elb, eo]
                refine ⟨rd_tail hl69 hna, hlb, ?_, by simp [hko], by omega⟩
                have hq : lb = [] ∨ ∃ y, lb[0]? = some y ∧ x64.size < y.size := by
                  first
                    | exact .inl (List.eq_nil_of_length_eq_zero (by omega))
                    | (obtain rfl := Option.some.inj (hx52.symm.trans hx64)
                       exact .inr ⟨_, hx56, hc42⟩)
                rw [hP, mg_left hx64 hq, List.append_assoc]
                rfl)
             | (change _ at hx87
                rw [ela, elb, eo]
                refine ⟨hla, rd_tail hl92 hnb, ?_, by simp [hko], by omega⟩
                have hq : la = [] ∨ ∃ x, la[0]? = some x ∧ x87.size < x.size := by
                  first
                    | exact .inl (List.eq_nil_of_length_eq_zero (by omega))
                    | (obtain rfl := Option.some.inj (hx76.symm.trans hx87)
                       exact .inr ⟨_, hx80, hc70⟩)
                rw [hP, mg_right hx87 hq, List.append_assoc]
                rfl)
             | (change _ at hx32
                rw [ela, elb, eo]
                refine ⟨rd_tail hl39 hna, rd_tail hl41 hnb, ?_, by simp [hko], by omega⟩
                obtain rfl := Option.some.inj (hx52.symm.trans hx24)
                obtain rfl := Option.some.inj (hx56.symm.trans hx28)
                obtain rfl := Option.some.inj (hx76.symm.trans hx28)
                obtain rfl := Option.some.inj (hx80.symm.trans hx24)
                obtain rfl := Option.some.inj (hx28.symm.trans hx32)
                rw [hP, mg_both hx24 hx28 hc42 hc70, if_pos hc30, List.append_assoc]
                rfl)
             | (change _ at hx24
                rw [ela, elb, eo]
                refine ⟨rd_tail hl39 hna, rd_tail hl41 hnb, ?_, by simp [hko], by omega⟩
                obtain rfl := Option.some.inj (hx52.symm.trans hx24)
                obtain rfl := Option.some.inj (hx56.symm.trans hx28)
                obtain rfl := Option.some.inj (hx76.symm.trans hx28)
                obtain rfl := Option.some.inj (hx80.symm.trans hx24)
                rw [hP, mg_both hx24 hx28 hc42 hc70, if_neg (by rw [hc30]; simp), List.append_assoc]
                rfl)
          ·try dsimp only
           omega
    ·have phs18 := hs18; try simp only [decide_eq_true_eq, decide_eq_false_iff_not, Bool.not_eq_true', Bool.not_eq_false', Bool.not_true, Bool.not_false] at phs18
     refine ol_g rfl rfl hs18 ?_
     refine ol_r (r_move rfl) rfl ?_
     refine ol_g rfl rfl hs18 ?_
     refine ol_r (r_len rfl sl38) rfl ?_
     refine ol_g rfl rfl hs18 ?_
     refine ol_r (r_gtr rfl rfl) rfl ?_
     refine ol_r (r_pickF rfl hs18 rfl) rfl ?_
     refine ol_nil (to_k0 (fun _ _ h => h) (hK10 _ _ _ _ _ ?_))
     clear hK10
     first | refine wp_condD rfl (fun hc22 => ?_) (fun hc22 => ?_) | refine wp_condN rfl (fun hc22 => ?_) (fun hc22 => ?_) | refine wp_condNB rfl (fun hc22 => ?_) (fun hc22 => ?_) | refine wp_cond' rfl (fun hc22 => ?_) (fun hc22 => ?_)
     ·refine wp_skip' (to_k0 (fun _ _ h => h) (hK9 _ _ _ _ _ ?_))
      clear hK9
      refine wp_block' ?_
      refine wp_block' ?_
      refine wp_seq' fun K40 hK40 => ?_
      refine wp_regq (by kernel_rfl) (by kernel_rfl) ?_
      refine ql_r (r_move rfl) rfl ?_
      refine ql_r (r_len rfl sl38) rfl ?_
      refine ql_r (r_eql rfl rfl) rfl ?_
      refine ql_r (r_move rfl) rfl ?_
      refine ql_split (d := 46) rfl (fun hs46 => ?_) (fun hs46 => ?_)
      ·have phs46 := hs46; try simp only [decide_eq_true_eq, decide_eq_false_iff_not, Bool.not_eq_true', Bool.not_eq_false', Bool.not_true, Bool.not_false] at phs46
       refine ql_s rfl rfl hs46 rfl ?_
       refine ql_s rfl rfl hs46 rfl ?_
       refine ql_s rfl rfl hs46 rfl ?_
       refine ql_s rfl rfl hs46 rfl ?_
       refine ql_u rfl rfl rfl ?_
       refine ql_u rfl rfl rfl ?_
       refine ql_u rfl rfl rfl ?_
       refine ql_u rfl rfl rfl ?_
       refine ql_u rfl rfl rfl ?_
       refine ql_u rfl rfl rfl ?_
       refine ql_u rfl rfl rfl ?_
       refine ql_u rfl rfl rfl ?_
       refine ql_u rfl rfl rfl ?_
       refine ql_s rfl rfl hs46 rfl ?_
       refine ql_r (r_pickT rfl hs46 rfl) rfl ?_
       refine ql_r (r_assign rfl) rfl ?_
       refine ql_nil (to_k0 (fun _ _ h => h) (hK40 _ _ _ _ _ ?_))
       clear hK40
       refine wp_condT rfl ?_
       refine wp_rega [(999, []), (5, [(7, _)])] (by kernel_rfl) ⟨.inr subH_nil, ⟨.inr (subH_same rfl subH_nil), trivial⟩⟩ ?_
       refine aq_r 0 999 rfl (by kernel_rfl) (by kernel_rfl) (by kernel_rfl) (.head _) (by kernel_rfl) (by kernel_rfl) rfl (r_move rfl) ?_
       refine aq_r 1 999 rfl (by kernel_rfl) (by kernel_rfl) (by kernel_rfl) (.head _) (by kernel_rfl) (by kernel_rfl) rfl (r_move rfl) ?_
       refine aq_ixr 2 999 rfl (by kernel_rfl) (by kernel_rfl) (by kernel_rfl) (.head _) (by kernel_rfl) (by kernel_rfl) rfl hla rfl rfl sl38 (by omega) fun x64 hx64 => ?_
       try simp only [Int.toNat_natCast] at hx64
       refine aq_r 3 999 rfl (by kernel_rfl) (by kernel_rfl) (by kernel_rfl) (.head _) (by kernel_rfl) (by kernel_rfl) rfl (r_ldw rfl (fun w1 hb1 hs1 hB1 => Rd.loads hla ty24 hx64 hb1)) ?_
       refine aq_r 6 999 rfl (by kernel_rfl) (by kernel_rfl) (by kernel_rfl) (.head _) (by kernel_rfl) (by kernel_rfl) rfl (r_move rfl) ?_
       refine aq_slr 7 999 rfl (by kernel_rfl) (by kernel_rfl) (by kernel_rfl) (.head _) (by kernel_rfl) (by kernel_rfl) rfl hla rfl rfl rfl sl38 (by simp only [Option.getD_some, Option.getD_none]; omega) fun a69 c69 hl69 => ?_
       try simp only [Option.getD_some, Option.getD_none] at hl69 ⊢
       refine aq_one (i := 4) (by kernel_rfl) rfl fun K41 hK41 => ?_
       refine ol_bs1 66 rfl rfl rw38 rfl rfl rfl fun a66 => ?_
       refine ol_nil (to_k0 (fun _ _ h => h) (hK41 _ _ ⟨.inr (by repeat' first | exact subH_nil | refine subH_same rfl ?_ | (refine subH_blk rfl (by repeat' first | exact sub_nil | refine sub_cons rfl ?_) ?_)), ⟨.inr (by repeat' first | exact subH_nil | refine subH_same rfl ?_ | (refine subH_blk rfl (by repeat' first | exact sub_nil | refine sub_cons rfl ?_) ?_)), trivial⟩⟩ ?_))
       clear hK41
       refine aq_one (i := 5) (by kernel_rfl) rfl fun K42 hK42 => ?_
       refine ol_append1 (id := 7) (id2 := 66) rfl rfl rfl rfl rfl rw38 (by omega) rfl fun a67 c67 => ?_
       refine ol_nil (to_k0 (fun _ _ h => h) (hK42 _ _ ⟨.inr (by repeat' first | exact subH_nil | refine subH_same rfl ?_ | (refine subH_blk rfl (by repeat' first | exact sub_nil | refine sub_cons rfl ?_) ?_)), ⟨.inl (by kernel_rfl), trivial⟩⟩ ?_))
       clear hK42
       first
         | (change _ at hx64
            obtain ⟨la', ela⟩ : ∃ l, l = la.drop 1 := ⟨_, rfl⟩
            obtain ⟨lb', elb⟩ : ∃ l, l = lb := ⟨_, rfl⟩
            obtain ⟨out', eo⟩ : ∃ l, l = out ++ [x64] := ⟨_, rfl⟩)
         | (change _ at hx87
            obtain ⟨la', ela⟩ : ∃ l, l = la := ⟨_, rfl⟩
            obtain ⟨lb', elb⟩ : ∃ l, l = lb.drop 1 := ⟨_, rfl⟩
            obtain ⟨out', eo⟩ : ∃ l, l = out ++ [x87] := ⟨_, rfl⟩)
         | (change _ at hx32
            obtain ⟨la', ela⟩ : ∃ l, l = la.drop 1 := ⟨_, rfl⟩
            obtain ⟨lb', elb⟩ : ∃ l, l = lb.drop 1 := ⟨_, rfl⟩
            obtain ⟨out', eo⟩ : ∃ l, l = out ++ [x32] := ⟨_, rfl⟩)
         | (change _ at hx24
            obtain ⟨la', ela⟩ : ∃ l, l = la.drop 1 := ⟨_, rfl⟩
            obtain ⟨lb', elb⟩ : ∃ l, l = lb.drop 1 := ⟨_, rfl⟩
            obtain ⟨out', eo⟩ : ∃ l, l = out ++ [x24] := ⟨_, rfl⟩)
         | skip
       refine aq_r 8 999 rfl (by kernel_rfl) (by kernel_rfl) (by kernel_rfl) (.head _) (by kernel_rfl) (by kernel_rfl) rfl (r_assign rfl) ?_
       refine aq_r 9 999 rfl (by kernel_rfl) (by kernel_rfl) (by kernel_rfl) (.head _) (by kernel_rfl) (by kernel_rfl) rfl (r_assign rfl) ?_
       refine aq_done (by kernel_rfl) ?_
       refine (to_k0 (fun _ _ h => h) (hK8 (((_, _, _, la'), (_, _, _, lb'), _, _, _, out')) _ _ ?_ ?_ (sub_cons rfl (sub_cons rfl (sub_cons rfl sub_nil))) (sub_cons rfl (sub_cons rfl sub_nil)) (by exact (subH_row rfl (by first | (dsimp only; rw [eo, encBest_snoc]; rfl; done) | (rw [eo, encBest_snoc]; rfl; done) | (dsimp only; done)) subH_nil)) subH_nil))
       ·try dsimp only
        first
          | (exfalso; omega)
          | (change _ at hx64
             rw [ela, elb, eo]
             refine ⟨rd_tail hl69 hna, hlb, ?_, by simp [hko], by omega⟩
             have hq : lb = [] ∨ ∃ y, lb[0]? = some y ∧ x64.size < y.size := by
               first
                 | exact .inl (List.eq_nil_of_length_eq_zero (by omega))
                 | (obtain rfl := Option.some.inj (hx52.symm.trans hx64)
                    exact .inr ⟨_, hx56, hc42⟩)
             rw [hP, mg_left hx64 hq, List.append_assoc]
             rfl)
          | (change _ at hx87
             rw [ela, elb, eo]
             refine ⟨hla, rd_tail hl92 hnb, ?_, by simp [hko], by omega⟩
             have hq : la = [] ∨ ∃ x, la[0]? = some x ∧ x87.size < x.size := by
               first
                 | exact .inl (List.eq_nil_of_length_eq_zero (by omega))
                 | (obtain rfl := Option.some.inj (hx76.symm.trans hx87)
                    exact .inr ⟨_, hx80, hc70⟩)
             rw [hP, mg_right hx87 hq, List.append_assoc]
             rfl)
          | (change _ at hx32
             rw [ela, elb, eo]
             refine ⟨rd_tail hl39 hna, rd_tail hl41 hnb, ?_, by simp [hko], by omega⟩
             obtain rfl := Option.some.inj (hx52.symm.trans hx24)
             obtain rfl := Option.some.inj (hx56.symm.trans hx28)
             obtain rfl := Option.some.inj (hx76.symm.trans hx28)
             obtain rfl := Option.some.inj (hx80.symm.trans hx24)
             obtain rfl := Option.some.inj (hx28.symm.trans hx32)
             rw [hP, mg_both hx24 hx28 hc42 hc70, if_pos hc30, List.append_assoc]
             rfl)
          | (change _ at hx24
             rw [ela, elb, eo]
             refine ⟨rd_tail hl39 hna, rd_tail hl41 hnb, ?_, by simp [hko], by omega⟩
             obtain rfl := Option.some.inj (hx52.symm.trans hx24)
             obtain rfl := Option.some.inj (hx56.symm.trans hx28)
             obtain rfl := Option.some.inj (hx76.symm.trans hx28)
             obtain rfl := Option.some.inj (hx80.symm.trans hx24)
             rw [hP, mg_both hx24 hx28 hc42 hc70, if_neg (by rw [hc30]; simp), List.append_assoc]
             rfl)
       ·try dsimp only
        omega
      ·have phs46 := hs46; try simp only [decide_eq_true_eq, decide_eq_false_iff_not, Bool.not_eq_true', Bool.not_eq_false', Bool.not_true, Bool.not_false] at phs46
       refine ql_g rfl rfl hs46 ?_
       refine ql_r (r_move rfl) rfl ?_
       refine ql_g rfl rfl hs46 ?_
       refine ql_r (r_len rfl sl38) rfl ?_
       refine ql_g rfl rfl hs46 ?_
       refine ql_r (r_gtr rfl rfl) rfl ?_
       refine ql_g rfl rfl hs46 ?_
       refine ql_r (r_move rfl) rfl ?_
       refine ql_split (d := 50) rfl (fun hs50 => ?_) (fun hs50 => ?_)
       ·have phs50 := hs50; try simp only [decide_eq_true_eq, decide_eq_false_iff_not, Bool.not_eq_true', Bool.not_eq_false', Bool.not_true, Bool.not_false] at phs50
        refine ql_g rfl rfl hs50 ?_
        refine ql_r (r_move rfl) rfl ?_
        refine ql_g rfl rfl hs50 ?_
        refine ql_ixr hla rfl rfl sl38 (by omega) rfl fun x52 hx52 => ?_
        try simp only [Int.toNat_natCast] at hx52
        refine ql_g rfl rfl hs50 ?_
        refine ql_r (r_faw rfl (ix_some hla (by omega)) fl24_0) rfl ?_
        refine ql_g rfl rfl hs50 ?_
        refine ql_r (r_ldw rfl (fun w1 hb1 hs1 hB1 => Rd.loadsF (o := 0) hla sc3 hx52 hb1 rfl)) rfl ?_
        refine ql_g rfl rfl hs50 ?_
        refine ql_r (r_move rfl) rfl ?_
        refine ql_g rfl rfl hs50 ?_
        refine ql_ixr hlb rfl rfl sl38 (by omega) rfl fun x56 hx56 => ?_
        try simp only [Int.toNat_natCast] at hx56
        refine ql_g rfl rfl hs50 ?_
        refine ql_r (r_faw rfl (ix_some hlb (by omega)) fl24_0) rfl ?_
        refine ql_g rfl rfl hs50 ?_
        refine ql_r (r_ldw rfl (fun w1 hb1 hs1 hB1 => Rd.loadsF (o := 0) hlb sc3 hx56 hb1 rfl)) rfl ?_
        refine ql_g rfl rfl hs50 ?_
        refine ql_r (r_lss rfl rfl) rfl ?_
        refine ql_g rfl rfl hs46 ?_
        refine ql_r (r_pickT rfl hs50 rfl) rfl ?_
        refine ql_r (r_pickF rfl hs46 rfl) rfl ?_
        refine ql_r (r_assign rfl) rfl ?_
        refine ql_nil (to_k0 (fun _ _ h => h) (hK40 _ _ _ _ _ ?_))
        clear hK40
        first | refine wp_condD rfl (fun hc42 => ?_) (fun hc42 => ?_) | refine wp_condN rfl (fun hc42 => ?_) (fun hc42 => ?_) | refine wp_condNB rfl (fun hc42 => ?_) (fun hc42 => ?_) | refine wp_cond' rfl (fun hc42 => ?_) (fun hc42 => ?_)
        ·refine wp_rega [(999, []), (5, [(7, _)])] (by kernel_rfl) ⟨.inr subH_nil, ⟨.inr (subH_same rfl subH_nil), trivial⟩⟩ ?_
         refine aq_r 0 999 rfl (by kernel_rfl) (by kernel_rfl) (by kernel_rfl) (.head _) (by kernel_rfl) (by kernel_rfl) rfl (r_move rfl) ?_
         refine aq_r 1 999 rfl (by kernel_rfl) (by kernel_rfl) (by kernel_rfl) (.head _) (by kernel_rfl) (by kernel_rfl) rfl (r_move rfl) ?_
         refine aq_ixr 2 999 rfl (by kernel_rfl) (by kernel_rfl) (by kernel_rfl) (.head _) (by kernel_rfl) (by kernel_rfl) rfl hla rfl rfl sl38 (by omega) fun x64 hx64 => ?_
         try simp only [Int.toNat_natCast] at hx64
         refine aq_r 3 999 rfl (by kernel_rfl) (by kernel_rfl) (by kernel_rfl) (.head _) (by kernel_rfl) (by kernel_rfl) rfl (r_ldw rfl (fun w1 hb1 hs1 hB1 => Rd.loads hla ty24 hx64 hb1)) ?_
         refine aq_r 6 999 rfl (by kernel_rfl) (by kernel_rfl) (by kernel_rfl) (.head _) (by kernel_rfl) (by kernel_rfl) rfl (r_move rfl) ?_
         refine aq_slr 7 999 rfl (by kernel_rfl) (by kernel_rfl) (by kernel_rfl) (.head _) (by kernel_rfl) (by kernel_rfl) rfl hla rfl rfl rfl sl38 (by simp only [Option.getD_some, Option.getD_none]; omega) fun a69 c69 hl69 => ?_
         try simp only [Option.getD_some, Option.getD_none] at hl69 ⊢
         refine aq_one (i := 4) (by kernel_rfl) rfl fun K43 hK43 => ?_
         refine ol_bs1 66 rfl rfl rw38 rfl rfl rfl fun a66 => ?_
         refine ol_nil (to_k0 (fun _ _ h => h) (hK43 _ _ ⟨.inr (by repeat' first | exact subH_nil | refine subH_same rfl ?_ | (refine subH_blk rfl (by repeat' first | exact sub_nil | refine sub_cons rfl ?_) ?_)), ⟨.inr (by repeat' first | exact subH_nil | refine subH_same rfl ?_ | (refine subH_blk rfl (by repeat' first | exact sub_nil | refine sub_cons rfl ?_) ?_)), trivial⟩⟩ ?_))
         clear hK43
         refine aq_one (i := 5) (by kernel_rfl) rfl fun K44 hK44 => ?_
         refine ol_append1 (id := 7) (id2 := 66) rfl rfl rfl rfl rfl rw38 (by omega) rfl fun a67 c67 => ?_
         refine ol_nil (to_k0 (fun _ _ h => h) (hK44 _ _ ⟨.inr (by repeat' first | exact subH_nil | refine subH_same rfl ?_ | (refine subH_blk rfl (by repeat' first | exact sub_nil | refine sub_cons rfl ?_) ?_)), ⟨.inl (by kernel_rfl), trivial⟩⟩ ?_))
         clear hK44
         first
           | (change _ at hx64
              obtain ⟨la', ela⟩ : ∃ l, l = la.drop 1 := ⟨_, rfl⟩
              obtain ⟨lb', elb⟩ : ∃ l, l = lb := ⟨_, rfl⟩
              obtain ⟨out', eo⟩ : ∃ l, l = out ++ [x64] := ⟨_, rfl⟩)
           | (change _ at hx87
              obtain ⟨la', ela⟩ : ∃ l, l = la := ⟨_, rfl⟩
              obtain ⟨lb', elb⟩ : ∃ l, l = lb.drop 1 := ⟨_, rfl⟩
              obtain ⟨out', eo⟩ : ∃ l, l = out ++ [x87] := ⟨_, rfl⟩)
           | (change _ at hx32
              obtain ⟨la', ela⟩ : ∃ l, l = la.drop 1 := ⟨_, rfl⟩
              obtain ⟨lb', elb⟩ : ∃ l, l = lb.drop 1 := ⟨_, rfl⟩
              obtain ⟨out', eo⟩ : ∃ l, l = out ++ [x32] := ⟨_, rfl⟩)
           | (change _ at hx24
              obtain ⟨la', ela⟩ : ∃ l, l = la.drop 1 := ⟨_, rfl⟩
              obtain ⟨lb', elb⟩ : ∃ l, l = lb.drop 1 := ⟨_, rfl⟩
              obtain ⟨out', eo⟩ : ∃ l, l = out ++ [x24] := ⟨_, rfl⟩)
           | skip
         refine aq_r 8 999 rfl (by kernel_rfl) (by kernel_rfl) (by kernel_rfl) (.head _) (by kernel_rfl) (by kernel_rfl) rfl (r_assign rfl) ?_
         refine aq_r 9 999 rfl (by kernel_rfl) (by kernel_rfl) (by kernel_rfl) (.head _) (by kernel_rfl) (by kernel_rfl) rfl (r_assign rfl) ?_
         refine aq_done (by kernel_rfl) ?_
         refine (to_k0 (fun _ _ h => h) (hK8 (((_, _, _, la'), (_, _, _, lb'), _, _, _, out')) _ _ ?_ ?_ (sub_cons rfl (sub_cons rfl (sub_cons rfl sub_nil))) (sub_cons rfl (sub_cons rfl sub_nil)) (by exact (subH_row rfl (by first | (dsimp only; rw [eo, encBest_snoc]; rfl; done) | (rw [eo, encBest_snoc]; rfl; done) | (dsimp only; done)) subH_nil)) subH_nil))
         ·try dsimp only
          first
            | (exfalso; omega)
            | (change _ at hx64
               rw [ela, elb, eo]
               refine ⟨rd_tail hl69 hna, hlb, ?_, by simp [hko], by omega⟩
               have hq : lb = [] ∨ ∃ y, lb[0]? = some y ∧ x64.size < y.size := by
                 first
                   | exact .inl (List.eq_nil_of_length_eq_zero (by omega))
                   | (obtain rfl := Option.some.inj (hx52.symm.trans hx64)
                      exact .inr ⟨_, hx56, hc42⟩)
               rw [hP, mg_left hx64 hq, List.append_assoc]
               rfl)
            | (change _ at hx87
               rw [ela, elb, eo]
               refine ⟨hla, rd_tail hl92 hnb, ?_, by simp [hko], by omega⟩
               have hq : la = [] ∨ ∃ x, la[0]? = some x ∧ x87.size < x.size := by
                 first
                   | exact .inl (List.eq_nil_of_length_eq_zero (by omega))
                   | (obtain rfl := Option.some.inj (hx76.symm.trans hx87)
                      exact .inr ⟨_, hx80, hc70⟩)
               rw [hP, mg_right hx87 hq, List.append_assoc]
               rfl)
            | (change _ at hx32
               rw [ela, elb, eo]
               refine ⟨rd_tail hl39 hna, rd_tail hl41 hnb, ?_, by simp [hko], by omega⟩
               obtain rfl := Option.some.inj (hx52.symm.trans hx24)
               obtain rfl := Option.some.inj (hx56.symm.trans hx28)
               obtain rfl := Option.some.inj (hx76.symm.trans hx28)
               obtain rfl := Option.some.inj (hx80.symm.trans hx24)
               obtain rfl := Option.some.inj (hx28.symm.trans hx32)
               rw [hP, mg_both hx24 hx28 hc42 hc70, if_pos hc30, List.append_assoc]
               rfl)
            | (change _ at hx24
               rw [ela, elb, eo]
               refine ⟨rd_tail hl39 hna, rd_tail hl41 hnb, ?_, by simp [hko], by omega⟩
               obtain rfl := Option.some.inj (hx52.symm.trans hx24)
               obtain rfl := Option.some.inj (hx56.symm.trans hx28)
               obtain rfl := Option.some.inj (hx76.symm.trans hx28)
               obtain rfl := Option.some.inj (hx80.symm.trans hx24)
               rw [hP, mg_both hx24 hx28 hc42 hc70, if_neg (by rw [hc30]; simp), List.append_assoc]
               rfl)
         ·try dsimp only
          omega
        ·refine wp_seq' fun K45 hK45 => ?_
         refine wp_regq (by kernel_rfl) (by kernel_rfl) ?_
         refine ql_r (r_move rfl) rfl ?_
         refine ql_r (r_len rfl sl38) rfl ?_
         refine ql_r (r_eql rfl rfl) rfl ?_
         refine ql_r (r_move rfl) rfl ?_
         refine ql_split (d := 74) rfl (fun hs74 => ?_) (fun hs74 => ?_)
         ·have phs74 := hs74; try simp only [decide_eq_true_eq, decide_eq_false_iff_not, Bool.not_eq_true', Bool.not_eq_false', Bool.not_true, Bool.not_false] at phs74
          refine ql_s rfl rfl hs74 rfl ?_
          refine ql_s rfl rfl hs74 rfl ?_
          refine ql_s rfl rfl hs74 rfl ?_
          refine ql_s rfl rfl hs74 rfl ?_
          refine ql_s rfl rfl hs74 rfl ?_
          refine ql_s rfl rfl hs74 rfl ?_
          refine ql_s rfl rfl hs74 rfl ?_
          refine ql_s rfl rfl hs74 rfl ?_
          refine ql_s rfl rfl hs74 rfl ?_
          refine ql_r (r_pickT rfl hs74 rfl) rfl ?_
          refine ql_r (r_assign rfl) rfl ?_
          refine ql_nil (to_k0 (fun _ _ h => h) (hK45 _ _ _ _ _ ?_))
          clear hK45
          refine wp_condT rfl ?_
          refine wp_rega [(999, []), (5, [(7, _)])] (by kernel_rfl) ⟨.inr subH_nil, ⟨.inr (subH_same rfl subH_nil), trivial⟩⟩ ?_
          refine aq_r 0 999 rfl (by kernel_rfl) (by kernel_rfl) (by kernel_rfl) (.head _) (by kernel_rfl) (by kernel_rfl) rfl (r_move rfl) ?_
          refine aq_r 1 999 rfl (by kernel_rfl) (by kernel_rfl) (by kernel_rfl) (.head _) (by kernel_rfl) (by kernel_rfl) rfl (r_move rfl) ?_
          refine aq_ixr 2 999 rfl (by kernel_rfl) (by kernel_rfl) (by kernel_rfl) (.head _) (by kernel_rfl) (by kernel_rfl) rfl hlb rfl rfl sl38 (by omega) fun x87 hx87 => ?_
          try simp only [Int.toNat_natCast] at hx87
          refine aq_r 3 999 rfl (by kernel_rfl) (by kernel_rfl) (by kernel_rfl) (.head _) (by kernel_rfl) (by kernel_rfl) rfl (r_ldw rfl (fun w1 hb1 hs1 hB1 => Rd.loads hlb ty24 hx87 hb1)) ?_
          refine aq_r 6 999 rfl (by kernel_rfl) (by kernel_rfl) (by kernel_rfl) (.head _) (by kernel_rfl) (by kernel_rfl) rfl (r_move rfl) ?_
          refine aq_slr 7 999 rfl (by kernel_rfl) (by kernel_rfl) (by kernel_rfl) (.head _) (by kernel_rfl) (by kernel_rfl) rfl hlb rfl rfl rfl sl38 (by simp only [Option.getD_some, Option.getD_none]; omega) fun a92 c92 hl92 => ?_
          try simp only [Option.getD_some, Option.getD_none] at hl92 ⊢
          refine aq_one (i := 4) (by kernel_rfl) rfl fun K46 hK46 => ?_
          refine ol_bs1 89 rfl rfl rw38 rfl rfl rfl fun a89 => ?_
          refine ol_nil (to_k0 (fun _ _ h => h) (hK46 _ _ ⟨.inr (by repeat' first | exact subH_nil | refine subH_same rfl ?_ | (refine subH_blk rfl (by repeat' first | exact sub_nil | refine sub_cons rfl ?_) ?_)), ⟨.inr (by repeat' first | exact subH_nil | refine subH_same rfl ?_ | (refine subH_blk rfl (by repeat' first | exact sub_nil | refine sub_cons rfl ?_) ?_)), trivial⟩⟩ ?_))
          clear hK46
          refine aq_one (i := 5) (by kernel_rfl) rfl fun K47 hK47 => ?_
          refine ol_append1 (id := 7) (id2 := 89) rfl rfl rfl rfl rfl rw38 (by omega) rfl fun a90 c90 => ?_
          refine ol_nil (to_k0 (fun _ _ h => h) (hK47 _ _ ⟨.inr (by repeat' first | exact subH_nil | refine subH_same rfl ?_ | (refine subH_blk rfl (by repeat' first | exact sub_nil | refine sub_cons rfl ?_) ?_)), ⟨.inl (by kernel_rfl), trivial⟩⟩ ?_))
          clear hK47
          first
            | (change _ at hx64
               obtain ⟨la', ela⟩ : ∃ l, l = la.drop 1 := ⟨_, rfl⟩
               obtain ⟨lb', elb⟩ : ∃ l, l = lb := ⟨_, rfl⟩
               obtain ⟨out', eo⟩ : ∃ l, l = out ++ [x64] := ⟨_, rfl⟩)
            | (change _ at hx87
               obtain ⟨la', ela⟩ : ∃ l, l = la := ⟨_, rfl⟩
               obtain ⟨lb', elb⟩ : ∃ l, l = lb.drop 1 := ⟨_, rfl⟩
               obtain ⟨out', eo⟩ : ∃ l, l = out ++ [x87] := ⟨_, rfl⟩)
            | (change _ at hx32
               obtain ⟨la', ela⟩ : ∃ l, l = la.drop 1 := ⟨_, rfl⟩
               obtain ⟨lb', elb⟩ : ∃ l, l = lb.drop 1 := ⟨_, rfl⟩
               obtain ⟨out', eo⟩ : ∃ l, l = out ++ [x32] := ⟨_, rfl⟩)
            | (change _ at hx24
               obtain ⟨la', ela⟩ : ∃ l, l = la.drop 1 := ⟨_, rfl⟩
               obtain ⟨lb', elb⟩ : ∃ l, l = lb.drop 1 := ⟨_, rfl⟩
               obtain ⟨out', eo⟩ : ∃ l, l = out ++ [x24] := ⟨_, rfl⟩)
            | skip
          refine aq_r 8 999 rfl (by kernel_rfl) (by kernel_rfl) (by kernel_rfl) (.head _) (by kernel_rfl) (by kernel_rfl) rfl (r_assign rfl) ?_
          refine aq_r 9 999 rfl (by kernel_rfl) (by kernel_rfl) (by kernel_rfl) (.head _) (by kernel_rfl) (by kernel_rfl) rfl (r_assign rfl) ?_
          refine aq_done (by kernel_rfl) ?_
          refine (to_k0 (fun _ _ h => h) (hK8 (((_, _, _, la'), (_, _, _, lb'), _, _, _, out')) _ _ ?_ ?_ (sub_cons rfl (sub_cons rfl (sub_cons rfl sub_nil))) (sub_cons rfl (sub_cons rfl sub_nil)) (by exact (subH_row rfl (by first | (dsimp only; rw [eo, encBest_snoc]; rfl; done) | (rw [eo, encBest_snoc]; rfl; done) | (dsimp only; done)) subH_nil)) subH_nil))
          ·try dsimp only
           first
             | (exfalso; omega)
             | (change _ at hx64
                rw [ela, elb, eo]
                refine ⟨rd_tail hl69 hna, hlb, ?_, by simp [hko], by omega⟩
                have hq : lb = [] ∨ ∃ y, lb[0]? = some y ∧ x64.size < y.size := by
                  first
                    | exact .inl (List.eq_nil_of_length_eq_zero (by omega))
                    | (obtain rfl := Option.some.inj (hx52.symm.trans hx64)
                       exact .inr ⟨_, hx56, hc42⟩)
                rw [hP, mg_left hx64 hq, List.append_assoc]
                rfl)
             | (change _ at hx87
                rw [ela, elb, eo]
                refine ⟨hla, rd_tail hl92 hnb, ?_, by simp [hko], by omega⟩
                have hq : la = [] ∨ ∃ x, la[0]? = some x ∧ x87.size < x.size := by
                  first
                    | exact .inl (List.eq_nil_of_length_eq_zero (by omega))
                    | (obtain rfl := Option.some.inj (hx76.symm.trans hx87)
                       exact .inr ⟨_, hx80, hc70⟩)
                rw [hP, mg_right hx87 hq, List.append_assoc]
                rfl)
             | (change _ at hx32
                rw [ela, elb, eo]
                refine ⟨rd_tail hl39 hna, rd_tail hl41 hnb, ?_, by simp [hko], by omega⟩
                obtain rfl := Option.some.inj (hx52.symm.trans hx24)
                obtain rfl := Option.some.inj (hx56.symm.trans hx28)
                obtain rfl := Option.some.inj (hx76.symm.trans hx28)
                obtain rfl := Option.some.inj (hx80.symm.trans hx24)
                obtain rfl := Option.some.inj (hx28.symm.trans hx32)
                rw [hP, mg_both hx24 hx28 hc42 hc70, if_pos hc30, List.append_assoc]
                rfl)
             | (change _ at hx24
                rw [ela, elb, eo]
                refine ⟨rd_tail hl39 hna, rd_tail hl41 hnb, ?_, by simp [hko], by omega⟩
                obtain rfl := Option.some.inj (hx52.symm.trans hx24)
                obtain rfl := Option.some.inj (hx56.symm.trans hx28)
                obtain rfl := Option.some.inj (hx76.symm.trans hx28)
                obtain rfl := Option.some.inj (hx80.symm.trans hx24)
                rw [hP, mg_both hx24 hx28 hc42 hc70, if_neg (by rw [hc30]; simp), List.append_assoc]
                rfl)
          ·try dsimp only
           omega
         ·have phs74 := hs74; try simp only [decide_eq_true_eq, decide_eq_false_iff_not, Bool.not_eq_true', Bool.not_eq_false', Bool.not_true, Bool.not_false] at phs74
          refine ql_g rfl rfl hs74 ?_
          refine ql_r (r_move rfl) rfl ?_
          refine ql_g rfl rfl hs74 ?_
          refine ql_ixr hlb rfl rfl sl38 (by omega) rfl fun x76 hx76 => ?_
          try simp only [Int.toNat_natCast] at hx76
          refine ql_g rfl rfl hs74 ?_
          refine ql_r (r_faw rfl (ix_some hlb (by omega)) fl24_0) rfl ?_
          refine ql_g rfl rfl hs74 ?_
          refine ql_r (r_ldw rfl (fun w1 hb1 hs1 hB1 => Rd.loadsF (o := 0) hlb sc3 hx76 hb1 rfl)) rfl ?_
          refine ql_g rfl rfl hs74 ?_
          refine ql_r (r_move rfl) rfl ?_
          refine ql_g rfl rfl hs74 ?_
          refine ql_ixr hla rfl rfl sl38 (by omega) rfl fun x80 hx80 => ?_
          try simp only [Int.toNat_natCast] at hx80
          refine ql_g rfl rfl hs74 ?_
          refine ql_r (r_faw rfl (ix_some hla (by omega)) fl24_0) rfl ?_
          refine ql_g rfl rfl hs74 ?_
          refine ql_r (r_ldw rfl (fun w1 hb1 hs1 hB1 => Rd.loadsF (o := 0) hla sc3 hx80 hb1 rfl)) rfl ?_
          refine ql_g rfl rfl hs74 ?_
          refine ql_r (r_lss rfl rfl) rfl ?_
          refine ql_r (r_pickF rfl hs74 rfl) rfl ?_
          refine ql_r (r_assign rfl) rfl ?_
          refine ql_nil (to_k0 (fun _ _ h => h) (hK45 _ _ _ _ _ ?_))
          clear hK45
          first | refine wp_condD rfl (fun hc70 => ?_) (fun hc70 => ?_) | refine wp_condN rfl (fun hc70 => ?_) (fun hc70 => ?_) | refine wp_condNB rfl (fun hc70 => ?_) (fun hc70 => ?_) | refine wp_cond' rfl (fun hc70 => ?_) (fun hc70 => ?_)
          ·refine wp_rega [(999, []), (5, [(7, _)])] (by kernel_rfl) ⟨.inr subH_nil, ⟨.inr (subH_same rfl subH_nil), trivial⟩⟩ ?_
           refine aq_r 0 999 rfl (by kernel_rfl) (by kernel_rfl) (by kernel_rfl) (.head _) (by kernel_rfl) (by kernel_rfl) rfl (r_move rfl) ?_
           refine aq_r 1 999 rfl (by kernel_rfl) (by kernel_rfl) (by kernel_rfl) (.head _) (by kernel_rfl) (by kernel_rfl) rfl (r_move rfl) ?_
           refine aq_ixr 2 999 rfl (by kernel_rfl) (by kernel_rfl) (by kernel_rfl) (.head _) (by kernel_rfl) (by kernel_rfl) rfl hlb rfl rfl sl38 (by omega) fun x87 hx87 => ?_
           try simp only [Int.toNat_natCast] at hx87
           refine aq_r 3 999 rfl (by kernel_rfl) (by kernel_rfl) (by kernel_rfl) (.head _) (by kernel_rfl) (by kernel_rfl) rfl (r_ldw rfl (fun w1 hb1 hs1 hB1 => Rd.loads hlb ty24 hx87 hb1)) ?_
           refine aq_r 6 999 rfl (by kernel_rfl) (by kernel_rfl) (by kernel_rfl) (.head _) (by kernel_rfl) (by kernel_rfl) rfl (r_move rfl) ?_
           refine aq_slr 7 999 rfl (by kernel_rfl) (by kernel_rfl) (by kernel_rfl) (.head _) (by kernel_rfl) (by kernel_rfl) rfl hlb rfl rfl rfl sl38 (by simp only [Option.getD_some, Option.getD_none]; omega) fun a92 c92 hl92 => ?_
           try simp only [Option.getD_some, Option.getD_none] at hl92 ⊢
           refine aq_one (i := 4) (by kernel_rfl) rfl fun K48 hK48 => ?_
           refine ol_bs1 89 rfl rfl rw38 rfl rfl rfl fun a89 => ?_
           refine ol_nil (to_k0 (fun _ _ h => h) (hK48 _ _ ⟨.inr (by repeat' first | exact subH_nil | refine subH_same rfl ?_ | (refine subH_blk rfl (by repeat' first | exact sub_nil | refine sub_cons rfl ?_) ?_)), ⟨.inr (by repeat' first | exact subH_nil | refine subH_same rfl ?_ | (refine subH_blk rfl (by repeat' first | exact sub_nil | refine sub_cons rfl ?_) ?_)), trivial⟩⟩ ?_))
           clear hK48
           refine aq_one (i := 5) (by kernel_rfl) rfl fun K49 hK49 => ?_
           refine ol_append1 (id := 7) (id2 := 89) rfl rfl rfl rfl rfl rw38 (by omega) rfl fun a90 c90 => ?_
           refine ol_nil (to_k0 (fun _ _ h => h) (hK49 _ _ ⟨.inr (by repeat' first | exact subH_nil | refine subH_same rfl ?_ | (refine subH_blk rfl (by repeat' first | exact sub_nil | refine sub_cons rfl ?_) ?_)), ⟨.inl (by kernel_rfl), trivial⟩⟩ ?_))
           clear hK49
           first
             | (change _ at hx64
                obtain ⟨la', ela⟩ : ∃ l, l = la.drop 1 := ⟨_, rfl⟩
                obtain ⟨lb', elb⟩ : ∃ l, l = lb := ⟨_, rfl⟩
                obtain ⟨out', eo⟩ : ∃ l, l = out ++ [x64] := ⟨_, rfl⟩)
             | (change _ at hx87
                obtain ⟨la', ela⟩ : ∃ l, l = la := ⟨_, rfl⟩
                obtain ⟨lb', elb⟩ : ∃ l, l = lb.drop 1 := ⟨_, rfl⟩
                obtain ⟨out', eo⟩ : ∃ l, l = out ++ [x87] := ⟨_, rfl⟩)
             | (change _ at hx32
                obtain ⟨la', ela⟩ : ∃ l, l = la.drop 1 := ⟨_, rfl⟩
                obtain ⟨lb', elb⟩ : ∃ l, l = lb.drop 1 := ⟨_, rfl⟩
                obtain ⟨out', eo⟩ : ∃ l, l = out ++ [x32] := ⟨_, rfl⟩)
             | (change _ at hx24
                obtain ⟨la', ela⟩ : ∃ l, l = la.drop 1 := ⟨_, rfl⟩
                obtain ⟨lb', elb⟩ : ∃ l, l = lb.drop 1 := ⟨_, rfl⟩
                obtain ⟨out', eo⟩ : ∃ l, l = out ++ [x24] := ⟨_, rfl⟩)
             | skip
           refine aq_r 8 999 rfl (by kernel_rfl) (by kernel_rfl) (by kernel_rfl) (.head _) (by kernel_rfl) (by kernel_rfl) rfl (r_assign rfl) ?_
           refine aq_r 9 999 rfl (by kernel_rfl) (by kernel_rfl) (by kernel_rfl) (.head _) (by kernel_rfl) (by kernel_rfl) rfl (r_assign rfl) ?_
           refine aq_done (by kernel_rfl) ?_
           refine (to_k0 (fun _ _ h => h) (hK8 (((_, _, _, la'), (_, _, _, lb'), _, _, _, out')) _ _ ?_ ?_ (sub_cons rfl (sub_cons rfl (sub_cons rfl sub_nil))) (sub_cons rfl (sub_cons rfl sub_nil)) (by exact (subH_row rfl (by first | (dsimp only; rw [eo, encBest_snoc]; rfl; done) | (rw [eo, encBest_snoc]; rfl; done) | (dsimp only; done)) subH_nil)) subH_nil))
           ·try dsimp only
            first
              | (exfalso; omega)
              | (change _ at hx64
                 rw [ela, elb, eo]
                 refine ⟨rd_tail hl69 hna, hlb, ?_, by simp [hko], by omega⟩
                 have hq : lb = [] ∨ ∃ y, lb[0]? = some y ∧ x64.size < y.size := by
                   first
                     | exact .inl (List.eq_nil_of_length_eq_zero (by omega))
                     | (obtain rfl := Option.some.inj (hx52.symm.trans hx64)
                        exact .inr ⟨_, hx56, hc42⟩)
                 rw [hP, mg_left hx64 hq, List.append_assoc]
                 rfl)
              | (change _ at hx87
                 rw [ela, elb, eo]
                 refine ⟨hla, rd_tail hl92 hnb, ?_, by simp [hko], by omega⟩
                 have hq : la = [] ∨ ∃ x, la[0]? = some x ∧ x87.size < x.size := by
                   first
                     | exact .inl (List.eq_nil_of_length_eq_zero (by omega))
                     | (obtain rfl := Option.some.inj (hx76.symm.trans hx87)
                        exact .inr ⟨_, hx80, hc70⟩)
                 rw [hP, mg_right hx87 hq, List.append_assoc]
                 rfl)
              | (change _ at hx32
                 rw [ela, elb, eo]
                 refine ⟨rd_tail hl39 hna, rd_tail hl41 hnb, ?_, by simp [hko], by omega⟩
                 obtain rfl := Option.some.inj (hx52.symm.trans hx24)
                 obtain rfl := Option.some.inj (hx56.symm.trans hx28)
                 obtain rfl := Option.some.inj (hx76.symm.trans hx28)
                 obtain rfl := Option.some.inj (hx80.symm.trans hx24)
                 obtain rfl := Option.some.inj (hx28.symm.trans hx32)
                 rw [hP, mg_both hx24 hx28 hc42 hc70, if_pos hc30, List.append_assoc]
                 rfl)
              | (change _ at hx24
                 rw [ela, elb, eo]
                 refine ⟨rd_tail hl39 hna, rd_tail hl41 hnb, ?_, by simp [hko], by omega⟩
                 obtain rfl := Option.some.inj (hx52.symm.trans hx24)
                 obtain rfl := Option.some.inj (hx56.symm.trans hx28)
                 obtain rfl := Option.some.inj (hx76.symm.trans hx28)
                 obtain rfl := Option.some.inj (hx80.symm.trans hx24)
                 rw [hP, mg_both hx24 hx28 hc42 hc70, if_neg (by rw [hc30]; simp), List.append_assoc]
                 rfl)
           ·try dsimp only
            omega
          ·refine wp_seq' fun K50 hK50 => ?_
           refine wp_reg ?_
           refine ol_r (r_move rfl) rfl ?_
           refine ol_ixr hla rfl rfl sl38 (by omega) rfl fun x24 hx24 => ?_
           try simp only [Int.toNat_natCast] at hx24
           refine ol_r (r_ldw rfl (fun w1 hb1 hs1 hB1 => Rd.loads hla ty24 hx24 hb1)) rfl ?_
           refine ol_alloc 8 z24 rfl fun b8 => ?_
           refine ol_store (id := 8) rfl rfl rfl rfl sz24 rfl rfl (by first | decide | exact Nat.zero_lt_succ _ | simp) ?_
           refine ol_nil (to_k0 (fun _ _ h => h) (hK50 _ _ _ _ _ ?_))
           clear hK50
           refine wp_seq' fun K51 hK51 => ?_
           refine wp_seq' fun K52 hK52 => ?_
           refine wp_regq (by kernel_rfl) (by kernel_rfl) ?_
           refine ql_r (r_lda (id := 8) (n := 4) rfl rfl rfl ag24) rfl ?_
           refine ql_r (r_move rfl) rfl ?_
           refine ql_ixr hlb rfl rfl sl38 (by omega) rfl fun x28 hx28 => ?_
           try simp only [Int.toNat_natCast] at hx28
           refine ql_r (r_ldw rfl (fun w1 hb1 hs1 hB1 => Rd.loads hlb ty24 hx28 hb1)) rfl ?_
           refine ql_call rfl rfl cb100 rfl (fun w1 hb1 hs1 hB1 => ref4_less x24 x28 _) ?_
           refine ql_nil (to_k0 (fun _ _ h => h) (hK52 _ _ _ _ _ ?_))
           clear hK52
           first | refine wp_condD rfl (fun hc30 => ?_) (fun hc30 => ?_) | refine wp_condN rfl (fun hc30 => ?_) (fun hc30 => ?_) | refine wp_condNB rfl (fun hc30 => ?_) (fun hc30 => ?_) | refine wp_cond' rfl (fun hc30 => ?_) (fun hc30 => ?_)
           ·refine wp_reg ?_
            refine ol_r (r_move rfl) rfl ?_
            refine ol_ixr hlb rfl rfl sl38 (by omega) rfl fun x32 hx32 => ?_
            try simp only [Int.toNat_natCast] at hx32
            refine ol_r (r_ldw rfl (fun w1 hb1 hs1 hB1 => Rd.loads hlb ty24 hx32 hb1)) rfl ?_
            refine ol_store (id := 8) rfl rfl rfl rfl sz24 rfl rfl (by first | decide | exact Nat.zero_lt_succ _ | simp) ?_
            refine ol_nil (to_k0 (fun _ _ h => h) (hK51 _ _ _ _ _ ?_))
            clear hK51
            refine wp_rega [(999, [(8, _)]), (3, [(7, _)])] (by kernel_rfl) ⟨.inr (subH_same rfl subH_nil), ⟨.inr (subH_same rfl subH_nil), trivial⟩⟩ ?_
            refine aq_r 0 999 rfl (by kernel_rfl) (by kernel_rfl) (by kernel_rfl) (.head _) (by kernel_rfl) (by kernel_rfl) rfl (r_move rfl) ?_
            refine aq_r 1 999 rfl (by kernel_rfl) (by kernel_rfl) (by kernel_rfl) (.head _) (by kernel_rfl) (by kernel_rfl) rfl (r_lda (id := 8) (n := 4) rfl rfl rfl ag24) ?_
            refine aq_r 4 999 rfl (by kernel_rfl) (by kernel_rfl) (by kernel_rfl) (.head _) (by kernel_rfl) (by kernel_rfl) rfl (r_move rfl) ?_
            refine aq_slr 5 999 rfl (by kernel_rfl) (by kernel_rfl) (by kernel_rfl) (.head _) (by kernel_rfl) (by kernel_rfl) rfl hla rfl rfl rfl sl38 (by simp only [Option.getD_some, Option.getD_none]; omega) fun a39 c39 hl39 => ?_
            try simp only [Option.getD_some, Option.getD_none] at hl39 ⊢
            refine aq_r 6 999 rfl (by kernel_rfl) (by kernel_rfl) (by kernel_rfl) (.head _) (by kernel_rfl) (by kernel_rfl) rfl (r_move rfl) ?_
            refine aq_slr 7 999 rfl (by kernel_rfl) (by kernel_rfl) (by kernel_rfl) (.head _) (by kernel_rfl) (by kernel_rfl) rfl hlb rfl rfl rfl sl38 (by simp only [Option.getD_some, Option.getD_none]; omega) fun a41 c41 hl41 => ?_
            try simp only [Option.getD_some, Option.getD_none] at hl41 ⊢
            refine aq_one (i := 2) (by kernel_rfl) rfl fun K53 hK53 => ?_
            refine ol_bs1 36 rfl rfl rw38 rfl rfl rfl fun a36 => ?_
            refine ol_nil (to_k0 (fun _ _ h => h) (hK53 _ _ ⟨.inr (by repeat' first | exact subH_nil | refine subH_same rfl ?_ | (refine subH_blk rfl (by repeat' first | exact sub_nil | refine sub_cons rfl ?_) ?_)), ⟨.inr (by repeat' first | exact subH_nil | refine subH_same rfl ?_ | (refine subH_blk rfl (by repeat' first | exact sub_nil | refine sub_cons rfl ?_) ?_)), trivial⟩⟩ ?_))
            clear hK53
            refine aq_one (i := 3) (by kernel_rfl) rfl fun K54 hK54 => ?_
            refine ol_append1 (id := 7) (id2 := 36) rfl rfl rfl rfl rfl rw38 (by omega) rfl fun a37 c37 => ?_
            refine ol_nil (to_k0 (fun _ _ h => h) (hK54 _ _ ⟨.inr (by repeat' first | exact subH_nil | refine subH_same rfl ?_ | (refine subH_blk rfl (by repeat' first | exact sub_nil | refine sub_cons rfl ?_) ?_)), ⟨.inl (by kernel_rfl), trivial⟩⟩ ?_))
            clear hK54
            first
              | (change _ at hx64
                 obtain ⟨la', ela⟩ : ∃ l, l = la.drop 1 := ⟨_, rfl⟩
                 obtain ⟨lb', elb⟩ : ∃ l, l = lb := ⟨_, rfl⟩
                 obtain ⟨out', eo⟩ : ∃ l, l = out ++ [x64] := ⟨_, rfl⟩)
              | (change _ at hx87
                 obtain ⟨la', ela⟩ : ∃ l, l = la := ⟨_, rfl⟩
                 obtain ⟨lb', elb⟩ : ∃ l, l = lb.drop 1 := ⟨_, rfl⟩
                 obtain ⟨out', eo⟩ : ∃ l, l = out ++ [x87] := ⟨_, rfl⟩)
              | (change _ at hx32
                 obtain ⟨la', ela⟩ : ∃ l, l = la.drop 1 := ⟨_, rfl⟩
                 obtain ⟨lb', elb⟩ : ∃ l, l = lb.drop 1 := ⟨_, rfl⟩
                 obtain ⟨out', eo⟩ : ∃ l, l = out ++ [x32] := ⟨_, rfl⟩)
              | (change _ at hx24
                 obtain ⟨la', ela⟩ : ∃ l, l = la.drop 1 := ⟨_, rfl⟩
                 obtain ⟨lb', elb⟩ : ∃ l, l = lb.drop 1 := ⟨_, rfl⟩
                 obtain ⟨out', eo⟩ : ∃ l, l = out ++ [x24] := ⟨_, rfl⟩)
              | skip
            refine aq_r 8 999 rfl (by kernel_rfl) (by kernel_rfl) (by kernel_rfl) (.head _) (by kernel_rfl) (by kernel_rfl) rfl (r_assign rfl) ?_
            refine aq_r 9 999 rfl (by kernel_rfl) (by kernel_rfl) (by kernel_rfl) (.head _) (by kernel_rfl) (by kernel_rfl) rfl (r_assign rfl) ?_
            refine aq_r 10 999 rfl (by kernel_rfl) (by kernel_rfl) (by kernel_rfl) (.head _) (by kernel_rfl) (by kernel_rfl) rfl (r_assign rfl) ?_
            refine aq_done (by kernel_rfl) ?_
            refine (to_k0 (fun _ _ h => h) (hK8 (((_, _, _, la'), (_, _, _, lb'), _, _, _, out')) _ _ ?_ ?_ (sub_cons rfl (sub_cons rfl (sub_cons rfl sub_nil))) (sub_cons rfl (sub_cons rfl sub_nil)) (by exact (subH_row rfl (by first | (dsimp only; rw [eo, encBest_snoc]; rfl; done) | (rw [eo, encBest_snoc]; rfl; done) | (dsimp only; done)) subH_nil)) subH_nil))
            ·try dsimp only
             first
               | (exfalso; omega)
               | (change _ at hx64
                  rw [ela, elb, eo]
                  refine ⟨rd_tail hl69 hna, hlb, ?_, by simp [hko], by omega⟩
                  have hq : lb = [] ∨ ∃ y, lb[0]? = some y ∧ x64.size < y.size := by
                    first
                      | exact .inl (List.eq_nil_of_length_eq_zero (by omega))
                      | (obtain rfl := Option.some.inj (hx52.symm.trans hx64)
                         exact .inr ⟨_, hx56, hc42⟩)
                  rw [hP, mg_left hx64 hq, List.append_assoc]
                  rfl)
               | (change _ at hx87
                  rw [ela, elb, eo]
                  refine ⟨hla, rd_tail hl92 hnb, ?_, by simp [hko], by omega⟩
                  have hq : la = [] ∨ ∃ x, la[0]? = some x ∧ x87.size < x.size := by
                    first
                      | exact .inl (List.eq_nil_of_length_eq_zero (by omega))
                      | (obtain rfl := Option.some.inj (hx76.symm.trans hx87)
                         exact .inr ⟨_, hx80, hc70⟩)
                  rw [hP, mg_right hx87 hq, List.append_assoc]
                  rfl)
               | (change _ at hx32
                  rw [ela, elb, eo]
                  refine ⟨rd_tail hl39 hna, rd_tail hl41 hnb, ?_, by simp [hko], by omega⟩
                  obtain rfl := Option.some.inj (hx52.symm.trans hx24)
                  obtain rfl := Option.some.inj (hx56.symm.trans hx28)
                  obtain rfl := Option.some.inj (hx76.symm.trans hx28)
                  obtain rfl := Option.some.inj (hx80.symm.trans hx24)
                  obtain rfl := Option.some.inj (hx28.symm.trans hx32)
                  rw [hP, mg_both hx24 hx28 hc42 hc70, if_pos hc30, List.append_assoc]
                  rfl)
               | (change _ at hx24
                  rw [ela, elb, eo]
                  refine ⟨rd_tail hl39 hna, rd_tail hl41 hnb, ?_, by simp [hko], by omega⟩
                  obtain rfl := Option.some.inj (hx52.symm.trans hx24)
                  obtain rfl := Option.some.inj (hx56.symm.trans hx28)
                  obtain rfl := Option.some.inj (hx76.symm.trans hx28)
                  obtain rfl := Option.some.inj (hx80.symm.trans hx24)
                  rw [hP, mg_both hx24 hx28 hc42 hc70, if_neg (by rw [hc30]; simp), List.append_assoc]
                  rfl)
            ·try dsimp only
             omega
           ·refine wp_skip' (to_k0 (fun _ _ h => h) (hK51 _ _ _ _ _ ?_))
            clear hK51
            refine wp_rega [(999, [(8, _)]), (3, [(7, _)])] (by kernel_rfl) ⟨.inr (subH_same rfl subH_nil), ⟨.inr (subH_same rfl subH_nil), trivial⟩⟩ ?_
            refine aq_r 0 999 rfl (by kernel_rfl) (by kernel_rfl) (by kernel_rfl) (.head _) (by kernel_rfl) (by kernel_rfl) rfl (r_move rfl) ?_
            refine aq_r 1 999 rfl (by kernel_rfl) (by kernel_rfl) (by kernel_rfl) (.head _) (by kernel_rfl) (by kernel_rfl) rfl (r_lda (id := 8) (n := 4) rfl rfl rfl ag24) ?_
            refine aq_r 4 999 rfl (by kernel_rfl) (by kernel_rfl) (by kernel_rfl) (.head _) (by kernel_rfl) (by kernel_rfl) rfl (r_move rfl) ?_
            refine aq_slr 5 999 rfl (by kernel_rfl) (by kernel_rfl) (by kernel_rfl) (.head _) (by kernel_rfl) (by kernel_rfl) rfl hla rfl rfl rfl sl38 (by simp only [Option.getD_some, Option.getD_none]; omega) fun a39 c39 hl39 => ?_
            try simp only [Option.getD_some, Option.getD_none] at hl39 ⊢
            refine aq_r 6 999 rfl (by kernel_rfl) (by kernel_rfl) (by kernel_rfl) (.head _) (by kernel_rfl) (by kernel_rfl) rfl (r_move rfl) ?_
            refine aq_slr 7 999 rfl (by kernel_rfl) (by kernel_rfl) (by kernel_rfl) (.head _) (by kernel_rfl) (by kernel_rfl) rfl hlb rfl rfl rfl sl38 (by simp only [Option.getD_some, Option.getD_none]; omega) fun a41 c41 hl41 => ?_
            try simp only [Option.getD_some, Option.getD_none] at hl41 ⊢
            refine aq_one (i := 2) (by kernel_rfl) rfl fun K55 hK55 => ?_
            refine ol_bs1 36 rfl rfl rw38 rfl rfl rfl fun a36 => ?_
            refine ol_nil (to_k0 (fun _ _ h => h) (hK55 _ _ ⟨.inr (by repeat' first | exact subH_nil | refine subH_same rfl ?_ | (refine subH_blk rfl (by repeat' first | exact sub_nil | refine sub_cons rfl ?_) ?_)), ⟨.inr (by repeat' first | exact subH_nil | refine subH_same rfl ?_ | (refine subH_blk rfl (by repeat' first | exact sub_nil | refine sub_cons rfl ?_) ?_)), trivial⟩⟩ ?_))
            clear hK55
            refine aq_one (i := 3) (by kernel_rfl) rfl fun K56 hK56 => ?_
            refine ol_append1 (id := 7) (id2 := 36) rfl rfl rfl rfl rfl rw38 (by omega) rfl fun a37 c37 => ?_
            refine ol_nil (to_k0 (fun _ _ h => h) (hK56 _ _ ⟨.inr (by repeat' first | exact subH_nil | refine subH_same rfl ?_ | (refine subH_blk rfl (by repeat' first | exact sub_nil | refine sub_cons rfl ?_) ?_)), ⟨.inl (by kernel_rfl), trivial⟩⟩ ?_))
            clear hK56
            first
              | (change _ at hx64
                 obtain ⟨la', ela⟩ : ∃ l, l = la.drop 1 := ⟨_, rfl⟩
                 obtain ⟨lb', elb⟩ : ∃ l, l = lb := ⟨_, rfl⟩
                 obtain ⟨out', eo⟩ : ∃ l, l = out ++ [x64] := ⟨_, rfl⟩)
              | (change _ at hx87
                 obtain ⟨la', ela⟩ : ∃ l, l = la := ⟨_, rfl⟩
                 obtain ⟨lb', elb⟩ : ∃ l, l = lb.drop 1 := ⟨_, rfl⟩
                 obtain ⟨out', eo⟩ : ∃ l, l = out ++ [x87] := ⟨_, rfl⟩)
              | (change _ at hx32
                 obtain ⟨la', ela⟩ : ∃ l, l = la.drop 1 := ⟨_, rfl⟩
                 obtain ⟨lb', elb⟩ : ∃ l, l = lb.drop 1 := ⟨_, rfl⟩
                 obtain ⟨out', eo⟩ : ∃ l, l = out ++ [x32] := ⟨_, rfl⟩)
              | (change _ at hx24
                 obtain ⟨la', ela⟩ : ∃ l, l = la.drop 1 := ⟨_, rfl⟩
                 obtain ⟨lb', elb⟩ : ∃ l, l = lb.drop 1 := ⟨_, rfl⟩
                 obtain ⟨out', eo⟩ : ∃ l, l = out ++ [x24] := ⟨_, rfl⟩)
              | skip
            refine aq_r 8 999 rfl (by kernel_rfl) (by kernel_rfl) (by kernel_rfl) (.head _) (by kernel_rfl) (by kernel_rfl) rfl (r_assign rfl) ?_
            refine aq_r 9 999 rfl (by kernel_rfl) (by kernel_rfl) (by kernel_rfl) (.head _) (by kernel_rfl) (by kernel_rfl) rfl (r_assign rfl) ?_
            refine aq_r 10 999 rfl (by kernel_rfl) (by kernel_rfl) (by kernel_rfl) (.head _) (by kernel_rfl) (by kernel_rfl) rfl (r_assign rfl) ?_
            refine aq_done (by kernel_rfl) ?_
            refine (to_k0 (fun _ _ h => h) (hK8 (((_, _, _, la'), (_, _, _, lb'), _, _, _, out')) _ _ ?_ ?_ (sub_cons rfl (sub_cons rfl (sub_cons rfl sub_nil))) (sub_cons rfl (sub_cons rfl sub_nil)) (by exact (subH_row rfl (by first | (dsimp only; rw [eo, encBest_snoc]; rfl; done) | (rw [eo, encBest_snoc]; rfl; done) | (dsimp only; done)) subH_nil)) subH_nil))
            ·try dsimp only
             first
               | (exfalso; omega)
               | (change _ at hx64
                  rw [ela, elb, eo]
                  refine ⟨rd_tail hl69 hna, hlb, ?_, by simp [hko], by omega⟩
                  have hq : lb = [] ∨ ∃ y, lb[0]? = some y ∧ x64.size < y.size := by
                    first
                      | exact .inl (List.eq_nil_of_length_eq_zero (by omega))
                      | (obtain rfl := Option.some.inj (hx52.symm.trans hx64)
                         exact .inr ⟨_, hx56, hc42⟩)
                  rw [hP, mg_left hx64 hq, List.append_assoc]
                  rfl)
               | (change _ at hx87
                  rw [ela, elb, eo]
                  refine ⟨hla, rd_tail hl92 hnb, ?_, by simp [hko], by omega⟩
                  have hq : la = [] ∨ ∃ x, la[0]? = some x ∧ x87.size < x.size := by
                    first
                      | exact .inl (List.eq_nil_of_length_eq_zero (by omega))
                      | (obtain rfl := Option.some.inj (hx76.symm.trans hx87)
                         exact .inr ⟨_, hx80, hc70⟩)
                  rw [hP, mg_right hx87 hq, List.append_assoc]
                  rfl)
               | (change _ at hx32
                  rw [ela, elb, eo]
                  refine ⟨rd_tail hl39 hna, rd_tail hl41 hnb, ?_, by simp [hko], by omega⟩
                  obtain rfl := Option.some.inj (hx52.symm.trans hx24)
                  obtain rfl := Option.some.inj (hx56.symm.trans hx28)
                  obtain rfl := Option.some.inj (hx76.symm.trans hx28)
                  obtain rfl := Option.some.inj (hx80.symm.trans hx24)
                  obtain rfl := Option.some.inj (hx28.symm.trans hx32)
                  rw [hP, mg_both hx24 hx28 hc42 hc70, if_pos hc30, List.append_assoc]
                  rfl)
               | (change _ at hx24
                  rw [ela, elb, eo]
                  refine ⟨rd_tail hl39 hna, rd_tail hl41 hnb, ?_, by simp [hko], by omega⟩
                  obtain rfl := Option.some.inj (hx52.symm.trans hx24)
                  obtain rfl := Option.some.inj (hx56.symm.trans hx28)
                  obtain rfl := Option.some.inj (hx76.symm.trans hx28)
                  obtain rfl := Option.some.inj (hx80.symm.trans hx24)
                  rw [hP, mg_both hx24 hx28 hc42 hc70, if_neg (by rw [hc30]; simp), List.append_assoc]
                  rfl)
            ·try dsimp only
             omega
       ·have phs50 := hs50; try simp only [decide_eq_true_eq, decide_eq_false_iff_not, Bool.not_eq_true', Bool.not_eq_false', Bool.not_true, Bool.not_false] at phs50
        refine ql_s rfl rfl hs50 rfl ?_
        refine ql_s rfl rfl hs50 rfl ?_
        refine ql_s rfl rfl hs50 rfl ?_
        refine ql_s rfl rfl hs50 rfl ?_
        refine ql_s rfl rfl hs50 rfl ?_
        refine ql_s rfl rfl hs50 rfl ?_
        refine ql_s rfl rfl hs50 rfl ?_
        refine ql_s rfl rfl hs50 rfl ?_
        refine ql_s rfl rfl hs50 rfl ?_
        refine ql_g rfl rfl hs46 ?_
        refine ql_r (r_pickF rfl hs50 rfl) rfl ?_
        refine ql_r (r_pickF rfl hs46 rfl) rfl ?_
        refine ql_r (r_assign rfl) rfl ?_
        refine ql_nil (to_k0 (fun _ _ h => h) (hK40 _ _ _ _ _ ?_))
        clear hK40
        refine wp_condF rfl ?_
        refine wp_seq' fun K57 hK57 => ?_
        refine wp_regq (by kernel_rfl) (by kernel_rfl) ?_
        refine ql_r (r_move rfl) rfl ?_
        refine ql_r (r_len rfl sl38) rfl ?_
        refine ql_r (r_eql rfl rfl) rfl ?_
        refine ql_r (r_move rfl) rfl ?_
        refine ql_split (d := 74) rfl (fun hs74 => ?_) (fun hs74 => ?_)
        ·have phs74 := hs74; try simp only [decide_eq_true_eq, decide_eq_false_iff_not, Bool.not_eq_true', Bool.not_eq_false', Bool.not_true, Bool.not_false] at phs74
         refine ql_s rfl rfl hs74 rfl ?_
         refine ql_s rfl rfl hs74 rfl ?_
         refine ql_s rfl rfl hs74 rfl ?_
         refine ql_s rfl rfl hs74 rfl ?_
         refine ql_s rfl rfl hs74 rfl ?_
         refine ql_s rfl rfl hs74 rfl ?_
         refine ql_s rfl rfl hs74 rfl ?_
         refine ql_s rfl rfl hs74 rfl ?_
         refine ql_s rfl rfl hs74 rfl ?_
         refine ql_r (r_pickT rfl hs74 rfl) rfl ?_
         refine ql_r (r_assign rfl) rfl ?_
         refine ql_nil (to_k0 (fun _ _ h => h) (hK57 _ _ _ _ _ ?_))
         clear hK57
         refine wp_condT rfl ?_
         refine wp_rega [(999, []), (5, [(7, _)])] (by kernel_rfl) ⟨.inr subH_nil, ⟨.inr (subH_same rfl subH_nil), trivial⟩⟩ ?_
         refine aq_r 0 999 rfl (by kernel_rfl) (by kernel_rfl) (by kernel_rfl) (.head _) (by kernel_rfl) (by kernel_rfl) rfl (r_move rfl) ?_
         refine aq_r 1 999 rfl (by kernel_rfl) (by kernel_rfl) (by kernel_rfl) (.head _) (by kernel_rfl) (by kernel_rfl) rfl (r_move rfl) ?_
         refine aq_ixr 2 999 rfl (by kernel_rfl) (by kernel_rfl) (by kernel_rfl) (.head _) (by kernel_rfl) (by kernel_rfl) rfl hlb rfl rfl sl38 (by omega) fun x87 hx87 => ?_
         try simp only [Int.toNat_natCast] at hx87
         refine aq_r 3 999 rfl (by kernel_rfl) (by kernel_rfl) (by kernel_rfl) (.head _) (by kernel_rfl) (by kernel_rfl) rfl (r_ldw rfl (fun w1 hb1 hs1 hB1 => Rd.loads hlb ty24 hx87 hb1)) ?_
         refine aq_r 6 999 rfl (by kernel_rfl) (by kernel_rfl) (by kernel_rfl) (.head _) (by kernel_rfl) (by kernel_rfl) rfl (r_move rfl) ?_
         refine aq_slr 7 999 rfl (by kernel_rfl) (by kernel_rfl) (by kernel_rfl) (.head _) (by kernel_rfl) (by kernel_rfl) rfl hlb rfl rfl rfl sl38 (by simp only [Option.getD_some, Option.getD_none]; omega) fun a92 c92 hl92 => ?_
         try simp only [Option.getD_some, Option.getD_none] at hl92 ⊢
         refine aq_one (i := 4) (by kernel_rfl) rfl fun K58 hK58 => ?_
         refine ol_bs1 89 rfl rfl rw38 rfl rfl rfl fun a89 => ?_
         refine ol_nil (to_k0 (fun _ _ h => h) (hK58 _ _ ⟨.inr (by repeat' first | exact subH_nil | refine subH_same rfl ?_ | (refine subH_blk rfl (by repeat' first | exact sub_nil | refine sub_cons rfl ?_) ?_)), ⟨.inr (by repeat' first | exact subH_nil | refine subH_same rfl ?_ | (refine subH_blk rfl (by repeat' first | exact sub_nil | refine sub_cons rfl ?_) ?_)), trivial⟩⟩ ?_))
         clear hK58
         refine aq_one (i := 5) (by kernel_rfl) rfl fun K59 hK59 => ?_
         refine ol_append1 (id := 7) (id2 := 89) rfl rfl rfl rfl rfl rw38 (by omega) rfl fun a90 c90 => ?_
         refine ol_nil (to_k0 (fun _ _ h => h) (hK59 _ _ ⟨.inr (by repeat' first | exact subH_nil | refine subH_same rfl ?_ | (refine subH_blk rfl (by repeat' first | exact sub_nil | refine sub_cons rfl ?_) ?_)), ⟨.inl (by kernel_rfl), trivial⟩⟩ ?_))
         clear hK59
         first
           | (change _ at hx64
              obtain ⟨la', ela⟩ : ∃ l, l = la.drop 1 := ⟨_, rfl⟩
              obtain ⟨lb', elb⟩ : ∃ l, l = lb := ⟨_, rfl⟩
              obtain ⟨out', eo⟩ : ∃ l, l = out ++ [x64] := ⟨_, rfl⟩)
           | (change _ at hx87
              obtain ⟨la', ela⟩ : ∃ l, l = la := ⟨_, rfl⟩
              obtain ⟨lb', elb⟩ : ∃ l, l = lb.drop 1 := ⟨_, rfl⟩
              obtain ⟨out', eo⟩ : ∃ l, l = out ++ [x87] := ⟨_, rfl⟩)
           | (change _ at hx32
              obtain ⟨la', ela⟩ : ∃ l, l = la.drop 1 := ⟨_, rfl⟩
              obtain ⟨lb', elb⟩ : ∃ l, l = lb.drop 1 := ⟨_, rfl⟩
              obtain ⟨out', eo⟩ : ∃ l, l = out ++ [x32] := ⟨_, rfl⟩)
           | (change _ at hx24
              obtain ⟨la', ela⟩ : ∃ l, l = la.drop 1 := ⟨_, rfl⟩
              obtain ⟨lb', elb⟩ : ∃ l, l = lb.drop 1 := ⟨_, rfl⟩
              obtain ⟨out', eo⟩ : ∃ l, l = out ++ [x24] := ⟨_, rfl⟩)
           | skip
         refine aq_r 8 999 rfl (by kernel_rfl) (by kernel_rfl) (by kernel_rfl) (.head _) (by kernel_rfl) (by kernel_rfl) rfl (r_assign rfl) ?_
         refine aq_r 9 999 rfl (by kernel_rfl) (by kernel_rfl) (by kernel_rfl) (.head _) (by kernel_rfl) (by kernel_rfl) rfl (r_assign rfl) ?_
         refine aq_done (by kernel_rfl) ?_
         refine (to_k0 (fun _ _ h => h) (hK8 (((_, _, _, la'), (_, _, _, lb'), _, _, _, out')) _ _ ?_ ?_ (sub_cons rfl (sub_cons rfl (sub_cons rfl sub_nil))) (sub_cons rfl (sub_cons rfl sub_nil)) (by exact (subH_row rfl (by first | (dsimp only; rw [eo, encBest_snoc]; rfl; done) | (rw [eo, encBest_snoc]; rfl; done) | (dsimp only; done)) subH_nil)) subH_nil))
         ·try dsimp only
          first
            | (exfalso; omega)
            | (change _ at hx64
               rw [ela, elb, eo]
               refine ⟨rd_tail hl69 hna, hlb, ?_, by simp [hko], by omega⟩
               have hq : lb = [] ∨ ∃ y, lb[0]? = some y ∧ x64.size < y.size := by
                 first
                   | exact .inl (List.eq_nil_of_length_eq_zero (by omega))
                   | (obtain rfl := Option.some.inj (hx52.symm.trans hx64)
                      exact .inr ⟨_, hx56, hc42⟩)
               rw [hP, mg_left hx64 hq, List.append_assoc]
               rfl)
            | (change _ at hx87
               rw [ela, elb, eo]
               refine ⟨hla, rd_tail hl92 hnb, ?_, by simp [hko], by omega⟩
               have hq : la = [] ∨ ∃ x, la[0]? = some x ∧ x87.size < x.size := by
                 first
                   | exact .inl (List.eq_nil_of_length_eq_zero (by omega))
                   | (obtain rfl := Option.some.inj (hx76.symm.trans hx87)
                      exact .inr ⟨_, hx80, hc70⟩)
               rw [hP, mg_right hx87 hq, List.append_assoc]
               rfl)
            | (change _ at hx32
               rw [ela, elb, eo]
               refine ⟨rd_tail hl39 hna, rd_tail hl41 hnb, ?_, by simp [hko], by omega⟩
               obtain rfl := Option.some.inj (hx52.symm.trans hx24)
               obtain rfl := Option.some.inj (hx56.symm.trans hx28)
               obtain rfl := Option.some.inj (hx76.symm.trans hx28)
               obtain rfl := Option.some.inj (hx80.symm.trans hx24)
               obtain rfl := Option.some.inj (hx28.symm.trans hx32)
               rw [hP, mg_both hx24 hx28 hc42 hc70, if_pos hc30, List.append_assoc]
               rfl)
            | (change _ at hx24
               rw [ela, elb, eo]
               refine ⟨rd_tail hl39 hna, rd_tail hl41 hnb, ?_, by simp [hko], by omega⟩
               obtain rfl := Option.some.inj (hx52.symm.trans hx24)
               obtain rfl := Option.some.inj (hx56.symm.trans hx28)
               obtain rfl := Option.some.inj (hx76.symm.trans hx28)
               obtain rfl := Option.some.inj (hx80.symm.trans hx24)
               rw [hP, mg_both hx24 hx28 hc42 hc70, if_neg (by rw [hc30]; simp), List.append_assoc]
               rfl)
         ·try dsimp only
          omega
        ·have phs74 := hs74; try simp only [decide_eq_true_eq, decide_eq_false_iff_not, Bool.not_eq_true', Bool.not_eq_false', Bool.not_true, Bool.not_false] at phs74
         refine ql_g rfl rfl hs74 ?_
         refine ql_r (r_move rfl) rfl ?_
         refine ql_g rfl rfl hs74 ?_
         refine ql_ixr hlb rfl rfl sl38 (by omega) rfl fun x76 hx76 => ?_
         try simp only [Int.toNat_natCast] at hx76
         refine ql_g rfl rfl hs74 ?_
         refine ql_r (r_faw rfl (ix_some hlb (by omega)) fl24_0) rfl ?_
         refine ql_g rfl rfl hs74 ?_
         refine ql_r (r_ldw rfl (fun w1 hb1 hs1 hB1 => Rd.loadsF (o := 0) hlb sc3 hx76 hb1 rfl)) rfl ?_
         refine ql_g rfl rfl hs74 ?_
         refine ql_r (r_move rfl) rfl ?_
         refine ql_g rfl rfl hs74 ?_
         refine ql_ixr hla rfl rfl sl38 (by omega) rfl fun x80 hx80 => ?_
         try simp only [Int.toNat_natCast] at hx80
         refine ql_g rfl rfl hs74 ?_
         refine ql_r (r_faw rfl (ix_some hla (by omega)) fl24_0) rfl ?_
         refine ql_g rfl rfl hs74 ?_
         refine ql_r (r_ldw rfl (fun w1 hb1 hs1 hB1 => Rd.loadsF (o := 0) hla sc3 hx80 hb1 rfl)) rfl ?_
         refine ql_g rfl rfl hs74 ?_
         refine ql_r (r_lss rfl rfl) rfl ?_
         refine ql_r (r_pickF rfl hs74 rfl) rfl ?_
         refine ql_r (r_assign rfl) rfl ?_
         refine ql_nil (to_k0 (fun _ _ h => h) (hK57 _ _ _ _ _ ?_))
         clear hK57
         first | refine wp_condD rfl (fun hc70 => ?_) (fun hc70 => ?_) | refine wp_condN rfl (fun hc70 => ?_) (fun hc70 => ?_) | refine wp_condNB rfl (fun hc70 => ?_) (fun hc70 => ?_) | refine wp_cond' rfl (fun hc70 => ?_) (fun hc70 => ?_)
         ·refine wp_rega [(999, []), (5, [(7, _)])] (by kernel_rfl) ⟨.inr subH_nil, ⟨.inr (subH_same rfl subH_nil), trivial⟩⟩ ?_
          refine aq_r 0 999 rfl (by kernel_rfl) (by kernel_rfl) (by kernel_rfl) (.head _) (by kernel_rfl) (by kernel_rfl) rfl (r_move rfl) ?_
          refine aq_r 1 999 rfl (by kernel_rfl) (by kernel_rfl) (by kernel_rfl) (.head _) (by kernel_rfl) (by kernel_rfl) rfl (r_move rfl) ?_
          refine aq_ixr 2 999 rfl (by kernel_rfl) (by kernel_rfl) (by kernel_rfl) (.head _) (by kernel_rfl) (by kernel_rfl) rfl hlb rfl rfl sl38 (by omega) fun x87 hx87 => ?_
          try simp only [Int.toNat_natCast] at hx87
          refine aq_r 3 999 rfl (by kernel_rfl) (by kernel_rfl) (by kernel_rfl) (.head _) (by kernel_rfl) (by kernel_rfl) rfl (r_ldw rfl (fun w1 hb1 hs1 hB1 => Rd.loads hlb ty24 hx87 hb1)) ?_
          refine aq_r 6 999 rfl (by kernel_rfl) (by kernel_rfl) (by kernel_rfl) (.head _) (by kernel_rfl) (by kernel_rfl) rfl (r_move rfl) ?_
          refine aq_slr 7 999 rfl (by kernel_rfl) (by kernel_rfl) (by kernel_rfl) (.head _) (by kernel_rfl) (by kernel_rfl) rfl hlb rfl rfl rfl sl38 (by simp only [Option.getD_some, Option.getD_none]; omega) fun a92 c92 hl92 => ?_
          try simp only [Option.getD_some, Option.getD_none] at hl92 ⊢
          refine aq_one (i := 4) (by kernel_rfl) rfl fun K60 hK60 => ?_
          refine ol_bs1 89 rfl rfl rw38 rfl rfl rfl fun a89 => ?_
          refine ol_nil (to_k0 (fun _ _ h => h) (hK60 _ _ ⟨.inr (by repeat' first | exact subH_nil | refine subH_same rfl ?_ | (refine subH_blk rfl (by repeat' first | exact sub_nil | refine sub_cons rfl ?_) ?_)), ⟨.inr (by repeat' first | exact subH_nil | refine subH_same rfl ?_ | (refine subH_blk rfl (by repeat' first | exact sub_nil | refine sub_cons rfl ?_) ?_)), trivial⟩⟩ ?_))
          clear hK60
          refine aq_one (i := 5) (by kernel_rfl) rfl fun K61 hK61 => ?_
          refine ol_append1 (id := 7) (id2 := 89) rfl rfl rfl rfl rfl rw38 (by omega) rfl fun a90 c90 => ?_
          refine ol_nil (to_k0 (fun _ _ h => h) (hK61 _ _ ⟨.inr (by repeat' first | exact subH_nil | refine subH_same rfl ?_ | (refine subH_blk rfl (by repeat' first | exact sub_nil | refine sub_cons rfl ?_) ?_)), ⟨.inl (by kernel_rfl), trivial⟩⟩ ?_))
          clear hK61
          first
            | (change _ at hx64
               obtain ⟨la', ela⟩ : ∃ l, l = la.drop 1 := ⟨_, rfl⟩
               obtain ⟨lb', elb⟩ : ∃ l, l = lb := ⟨_, rfl⟩
               obtain ⟨out', eo⟩ : ∃ l, l = out ++ [x64] := ⟨_, rfl⟩)
            | (change _ at hx87
               obtain ⟨la', ela⟩ : ∃ l, l = la := ⟨_, rfl⟩
               obtain ⟨lb', elb⟩ : ∃ l, l = lb.drop 1 := ⟨_, rfl⟩
               obtain ⟨out', eo⟩ : ∃ l, l = out ++ [x87] := ⟨_, rfl⟩)
            | (change _ at hx32
               obtain ⟨la', ela⟩ : ∃ l, l = la.drop 1 := ⟨_, rfl⟩
               obtain ⟨lb', elb⟩ : ∃ l, l = lb.drop 1 := ⟨_, rfl⟩
               obtain ⟨out', eo⟩ : ∃ l, l = out ++ [x32] := ⟨_, rfl⟩)
            | (change _ at hx24
               obtain ⟨la', ela⟩ : ∃ l, l = la.drop 1 := ⟨_, rfl⟩
               obtain ⟨lb', elb⟩ : ∃ l, l = lb.drop 1 := ⟨_, rfl⟩
               obtain ⟨out', eo⟩ : ∃ l, l = out ++ [x24] := ⟨_, rfl⟩)
            | skip
          refine aq_r 8 999 rfl (by kernel_rfl) (by kernel_rfl) (by kernel_rfl) (.head _) (by kernel_rfl) (by kernel_rfl) rfl (r_assign rfl) ?_
          refine aq_r 9 999 rfl (by kernel_rfl) (by kernel_rfl) (by kernel_rfl) (.head _) (by kernel_rfl) (by kernel_rfl) rfl (r_assign rfl) ?_
          refine aq_done (by kernel_rfl) ?_
          refine (to_k0 (fun _ _ h => h) (hK8 (((_, _, _, la'), (_, _, _, lb'), _, _, _, out')) _ _ ?_ ?_ (sub_cons rfl (sub_cons rfl (sub_cons rfl sub_nil))) (sub_cons rfl (sub_cons rfl sub_nil)) (by exact (subH_row rfl (by first | (dsimp only; rw [eo, encBest_snoc]; rfl; done) | (rw [eo, encBest_snoc]; rfl; done) | (dsimp only; done)) subH_nil)) subH_nil))
          ·try dsimp only
           first
             | (exfalso; omega)
             | (change _ at hx64
                rw [ela, elb, eo]
                refine ⟨rd_tail hl69 hna, hlb, ?_, by simp [hko], by omega⟩
                have hq : lb = [] ∨ ∃ y, lb[0]? = some y ∧ x64.size < y.size := by
                  first
                    | exact .inl (List.eq_nil_of_length_eq_zero (by omega))
                    | (obtain rfl := Option.some.inj (hx52.symm.trans hx64)
                       exact .inr ⟨_, hx56, hc42⟩)
                rw [hP, mg_left hx64 hq, List.append_assoc]
                rfl)
             | (change _ at hx87
                rw [ela, elb, eo]
                refine ⟨hla, rd_tail hl92 hnb, ?_, by simp [hko], by omega⟩
                have hq : la = [] ∨ ∃ x, la[0]? = some x ∧ x87.size < x.size := by
                  first
                    | exact .inl (List.eq_nil_of_length_eq_zero (by omega))
                    | (obtain rfl := Option.some.inj (hx76.symm.trans hx87)
                       exact .inr ⟨_, hx80, hc70⟩)
                rw [hP, mg_right hx87 hq, List.append_assoc]
                rfl)
             | (change _ at hx32
                rw [ela, elb, eo]
                refine ⟨rd_tail hl39 hna, rd_tail hl41 hnb, ?_, by simp [hko], by omega⟩
                obtain rfl := Option.some.inj (hx52.symm.trans hx24)
                obtain rfl := Option.some.inj (hx56.symm.trans hx28)
                obtain rfl := Option.some.inj (hx76.symm.trans hx28)
                obtain rfl := Option.some.inj (hx80.symm.trans hx24)
                obtain rfl := Option.some.inj (hx28.symm.trans hx32)
                rw [hP, mg_both hx24 hx28 hc42 hc70, if_pos hc30, List.append_assoc]
                rfl)
             | (change _ at hx24
                rw [ela, elb, eo]
                refine ⟨rd_tail hl39 hna, rd_tail hl41 hnb, ?_, by simp [hko], by omega⟩
                obtain rfl := Option.some.inj (hx52.symm.trans hx24)
                obtain rfl := Option.some.inj (hx56.symm.trans hx28)
                obtain rfl := Option.some.inj (hx76.symm.trans hx28)
                obtain rfl := Option.some.inj (hx80.symm.trans hx24)
                rw [hP, mg_both hx24 hx28 hc42 hc70, if_neg (by rw [hc30]; simp), List.append_assoc]
                rfl)
          ·try dsimp only
           omega
         ·refine wp_seq' fun K62 hK62 => ?_
          refine wp_reg ?_
          refine ol_r (r_move rfl) rfl ?_
          refine ol_ixr hla rfl rfl sl38 (by omega) rfl fun x24 hx24 => ?_
          try simp only [Int.toNat_natCast] at hx24
          refine ol_r (r_ldw rfl (fun w1 hb1 hs1 hB1 => Rd.loads hla ty24 hx24 hb1)) rfl ?_
          refine ol_alloc 8 z24 rfl fun b8 => ?_
          refine ol_store (id := 8) rfl rfl rfl rfl sz24 rfl rfl (by first | decide | exact Nat.zero_lt_succ _ | simp) ?_
          refine ol_nil (to_k0 (fun _ _ h => h) (hK62 _ _ _ _ _ ?_))
          clear hK62
          refine wp_seq' fun K63 hK63 => ?_
          refine wp_seq' fun K64 hK64 => ?_
          refine wp_regq (by kernel_rfl) (by kernel_rfl) ?_
          refine ql_r (r_lda (id := 8) (n := 4) rfl rfl rfl ag24) rfl ?_
          refine ql_r (r_move rfl) rfl ?_
          refine ql_ixr hlb rfl rfl sl38 (by omega) rfl fun x28 hx28 => ?_
          try simp only [Int.toNat_natCast] at hx28
          refine ql_r (r_ldw rfl (fun w1 hb1 hs1 hB1 => Rd.loads hlb ty24 hx28 hb1)) rfl ?_
          refine ql_call rfl rfl cb100 rfl (fun w1 hb1 hs1 hB1 => ref4_less x24 x28 _) ?_
          refine ql_nil (to_k0 (fun _ _ h => h) (hK64 _ _ _ _ _ ?_))
          clear hK64
          first | refine wp_condD rfl (fun hc30 => ?_) (fun hc30 => ?_) | refine wp_condN rfl (fun hc30 => ?_) (fun hc30 => ?_) | refine wp_condNB rfl (fun hc30 => ?_) (fun hc30 => ?_) | refine wp_cond' rfl (fun hc30 => ?_) (fun hc30 => ?_)
          ·refine wp_reg ?_
           refine ol_r (r_move rfl) rfl ?_
           refine ol_ixr hlb rfl rfl sl38 (by omega) rfl fun x32 hx32 => ?_
           try simp only [Int.toNat_natCast] at hx32
           refine ol_r (r_ldw rfl (fun w1 hb1 hs1 hB1 => Rd.loads hlb ty24 hx32 hb1)) rfl ?_
           refine ol_store (id := 8) rfl rfl rfl rfl sz24 rfl rfl (by first | decide | exact Nat.zero_lt_succ _ | simp) ?_
           refine ol_nil (to_k0 (fun _ _ h => h) (hK63 _ _ _ _ _ ?_))
           clear hK63
           refine wp_rega [(999, [(8, _)]), (3, [(7, _)])] (by kernel_rfl) ⟨.inr (subH_same rfl subH_nil), ⟨.inr (subH_same rfl subH_nil), trivial⟩⟩ ?_
           refine aq_r 0 999 rfl (by kernel_rfl) (by kernel_rfl) (by kernel_rfl) (.head _) (by kernel_rfl) (by kernel_rfl) rfl (r_move rfl) ?_
           refine aq_r 1 999 rfl (by kernel_rfl) (by kernel_rfl) (by kernel_rfl) (.head _) (by kernel_rfl) (by kernel_rfl) rfl (r_lda (id := 8) (n := 4) rfl rfl rfl ag24) ?_
           refine aq_r 4 999 rfl (by kernel_rfl) (by kernel_rfl) (by kernel_rfl) (.head _) (by kernel_rfl) (by kernel_rfl) rfl (r_move rfl) ?_
           refine aq_slr 5 999 rfl (by kernel_rfl) (by kernel_rfl) (by kernel_rfl) (.head _) (by kernel_rfl) (by kernel_rfl) rfl hla rfl rfl rfl sl38 (by simp only [Option.getD_some, Option.getD_none]; omega) fun a39 c39 hl39 => ?_
           try simp only [Option.getD_some, Option.getD_none] at hl39 ⊢
           refine aq_r 6 999 rfl (by kernel_rfl) (by kernel_rfl) (by kernel_rfl) (.head _) (by kernel_rfl) (by kernel_rfl) rfl (r_move rfl) ?_
           refine aq_slr 7 999 rfl (by kernel_rfl) (by kernel_rfl) (by kernel_rfl) (.head _) (by kernel_rfl) (by kernel_rfl) rfl hlb rfl rfl rfl sl38 (by simp only [Option.getD_some, Option.getD_none]; omega) fun a41 c41 hl41 => ?_
           try simp only [Option.getD_some, Option.getD_none] at hl41 ⊢
           refine aq_one (i := 2) (by kernel_rfl) rfl fun K65 hK65 => ?_
           refine ol_bs1 36 rfl rfl rw38 rfl rfl rfl fun a36 => ?_
           refine ol_nil (to_k0 (fun _ _ h => h) (hK65 _ _ ⟨.inr (by repeat' first | exact subH_nil | refine subH_same rfl ?_ | (refine subH_blk rfl (by repeat' first | exact sub_nil | refine sub_cons rfl ?_) ?_)), ⟨.inr (by repeat' first | exact subH_nil | refine subH_same rfl ?_ | (refine subH_blk rfl (by repeat' first | exact sub_nil | refine sub_cons rfl ?_) ?_)), trivial⟩⟩ ?_))
           clear hK65
           refine aq_one (i := 3) (by kernel_rfl) rfl fun K66 hK66 => ?_
           refine ol_append1 (id := 7) (id2 := 36) rfl rfl rfl rfl rfl rw38 (by omega) rfl fun a37 c37 => ?_
           refine ol_nil (to_k0 (fun _ _ h => h) (hK66 _ _ ⟨.inr (by repeat' first | exact subH_nil | refine subH_same rfl ?_ | (refine subH_blk rfl (by repeat' first | exact sub_nil | refine sub_cons rfl ?_) ?_)), ⟨.inl (by kernel_rfl), trivial⟩⟩ ?_))
           clear hK66
           first
             | (change _ at hx64
                obtain ⟨la', ela⟩ : ∃ l, l = la.drop 1 := ⟨_, rfl⟩
                obtain ⟨lb', elb⟩ : ∃ l, l = lb := ⟨_, rfl⟩
                obtain ⟨out', eo⟩ : ∃ l, l = out ++ [x64] := ⟨_, rfl⟩)
             | (change _ at hx87
                obtain ⟨la', ela⟩ : ∃ l, l = la := ⟨_, rfl⟩
                obtain ⟨lb', elb⟩ : ∃ l, l = lb.drop 1 := ⟨_, rfl⟩
                obtain ⟨out', eo⟩ : ∃ l, l = out ++ [x87] := ⟨_, rfl⟩)
             | (change _ at hx32
                obtain ⟨la', ela⟩ : ∃ l, l = la.drop 1 := ⟨_, rfl⟩
                obtain ⟨lb', elb⟩ : ∃ l, l = lb.drop 1 := ⟨_, rfl⟩
                obtain ⟨out', eo⟩ : ∃ l, l = out ++ [x32] := ⟨_, rfl⟩)
             | (change _ at hx24
                obtain ⟨la', ela⟩ : ∃ l, l = la.drop 1 := ⟨_, rfl⟩
                obtain ⟨lb', elb⟩ : ∃ l, l = lb.drop 1 := ⟨_, rfl⟩
                obtain ⟨out', eo⟩ : ∃ l, l = out ++ [x24] := ⟨_, rfl⟩)
             | skip
           refine aq_r 8 999 rfl (by kernel_rfl) (by kernel_rfl) (by kernel_rfl) (.head _) (by kernel_rfl) (by kernel_rfl) rfl (r_assign rfl) ?_
           refine aq_r 9 999 rfl (by kernel_rfl) (by kernel_rfl) (by kernel_rfl) (.head _) (by kernel_rfl) (by kernel_rfl) rfl (r_assign rfl) ?_
           refine aq_r 10 999 rfl (by kernel_rfl) (by kernel_rfl) (by kernel_rfl) (.head _) (by kernel_rfl) (by kernel_rfl) rfl (r_assign rfl) ?_
           refine aq_done (by kernel_rfl) ?_
           refine (to_k0 (fun _ _ h => h) (hK8 (((_, _, _, la'), (_, _, _, lb'), _, _, _, out')) _ _ ?_ ?_ (sub_cons rfl (sub_cons rfl (sub_cons rfl sub_nil))) (sub_cons rfl (sub_cons rfl sub_nil)) (by exact (subH_row rfl (by first | (dsimp only; rw [eo, encBest_snoc]; rfl; done) | (rw [eo, encBest_snoc]; rfl; done) | (dsimp only; done)) subH_nil)) subH_nil))
           ·try dsimp only
            first
              | (exfalso; omega)
              | (change _ at hx64
                 rw [ela, elb, eo]
                 refine ⟨rd_tail hl69 hna, hlb, ?_, by simp [hko], by omega⟩
                 have hq : lb = [] ∨ ∃ y, lb[0]? = some y ∧ x64.size < y.size := by
                   first
                     | exact .inl (List.eq_nil_of_length_eq_zero (by omega))
                     | (obtain rfl := Option.some.inj (hx52.symm.trans hx64)
                        exact .inr ⟨_, hx56, hc42⟩)
                 rw [hP, mg_left hx64 hq, List.append_assoc]
                 rfl)
              | (change _ at hx87
                 rw [ela, elb, eo]
                 refine ⟨hla, rd_tail hl92 hnb, ?_, by simp [hko], by omega⟩
                 have hq : la = [] ∨ ∃ x, la[0]? = some x ∧ x87.size < x.size := by
                   first
                     | exact .inl (List.eq_nil_of_length_eq_zero (by omega))
                     | (obtain rfl := Option.some.inj (hx76.symm.trans hx87)
                        exact .inr ⟨_, hx80, hc70⟩)
                 rw [hP, mg_right hx87 hq, List.append_assoc]
                 rfl)
              | (change _ at hx32
                 rw [ela, elb, eo]
                 refine ⟨rd_tail hl39 hna, rd_tail hl41 hnb, ?_, by simp [hko], by omega⟩
                 obtain rfl := Option.some.inj (hx52.symm.trans hx24)
                 obtain rfl := Option.some.inj (hx56.symm.trans hx28)
                 obtain rfl := Option.some.inj (hx76.symm.trans hx28)
                 obtain rfl := Option.some.inj (hx80.symm.trans hx24)
                 obtain rfl := Option.some.inj (hx28.symm.trans hx32)
                 rw [hP, mg_both hx24 hx28 hc42 hc70, if_pos hc30, List.append_assoc]
                 rfl)
              | (change _ at hx24
                 rw [ela, elb, eo]
                 refine ⟨rd_tail hl39 hna, rd_tail hl41 hnb, ?_, by simp [hko], by omega⟩
                 obtain rfl := Option.some.inj (hx52.symm.trans hx24)
                 obtain rfl := Option.some.inj (hx56.symm.trans hx28)
                 obtain rfl := Option.some.inj (hx76.symm.trans hx28)
                 obtain rfl := Option.some.inj (hx80.symm.trans hx24)
                 rw [hP, mg_both hx24 hx28 hc42 hc70, if_neg (by rw [hc30]; simp), List.append_assoc]
                 rfl)
           ·try dsimp only
            omega
          ·refine wp_skip' (to_k0 (fun _ _ h => h) (hK63 _ _ _ _ _ ?_))
           clear hK63
           refine wp_rega [(999, [(8, _)]), (3, [(7, _)])] (by kernel_rfl) ⟨.inr (subH_same rfl subH_nil), ⟨.inr (subH_same rfl subH_nil), trivial⟩⟩ ?_
           refine aq_r 0 999 rfl (by kernel_rfl) (by kernel_rfl) (by kernel_rfl) (.head _) (by kernel_rfl) (by kernel_rfl) rfl (r_move rfl) ?_
           refine aq_r 1 999 rfl (by kernel_rfl) (by kernel_rfl) (by kernel_rfl) (.head _) (by kernel_rfl) (by kernel_rfl) rfl (r_lda (id := 8) (n := 4) rfl rfl rfl ag24) ?_
           refine aq_r 4 999 rfl (by kernel_rfl) (by kernel_rfl) (by kernel_rfl) (.head _) (by kernel_rfl) (by kernel_rfl) rfl (r_move rfl) ?_
           refine aq_slr 5 999 rfl (by kernel_rfl) (by kernel_rfl) (by kernel_rfl) (.head _) (by kernel_rfl) (by kernel_rfl) rfl hla rfl rfl rfl sl38 (by simp only [Option.getD_some, Option.getD_none]; omega) fun a39 c39 hl39 => ?_
           try simp only [Option.getD_some, Option.getD_none] at hl39 ⊢
           refine aq_r 6 999 rfl (by kernel_rfl) (by kernel_rfl) (by kernel_rfl) (.head _) (by kernel_rfl) (by kernel_rfl) rfl (r_move rfl) ?_
           refine aq_slr 7 999 rfl (by kernel_rfl) (by kernel_rfl) (by kernel_rfl) (.head _) (by kernel_rfl) (by kernel_rfl) rfl hlb rfl rfl rfl sl38 (by simp only [Option.getD_some, Option.getD_none]; omega) fun a41 c41 hl41 => ?_
           try simp only [Option.getD_some, Option.getD_none] at hl41 ⊢
           refine aq_one (i := 2) (by kernel_rfl) rfl fun K67 hK67 => ?_
           refine ol_bs1 36 rfl rfl rw38 rfl rfl rfl fun a36 => ?_
           refine ol_nil (to_k0 (fun _ _ h => h) (hK67 _ _ ⟨.inr (by repeat' first | exact subH_nil | refine subH_same rfl ?_ | (refine subH_blk rfl (by repeat' first | exact sub_nil | refine sub_cons rfl ?_) ?_)), ⟨.inr (by repeat' first | exact subH_nil | refine subH_same rfl ?_ | (refine subH_blk rfl (by repeat' first | exact sub_nil | refine sub_cons rfl ?_) ?_)), trivial⟩⟩ ?_))
           clear hK67
           refine aq_one (i := 3) (by kernel_rfl) rfl fun K68 hK68 => ?_
           refine ol_append1 (id := 7) (id2 := 36) rfl rfl rfl rfl rfl rw38 (by omega) rfl fun a37 c37 => ?_
           refine ol_nil (to_k0 (fun _ _ h => h) (hK68 _ _ ⟨.inr (by repeat' first | exact subH_nil | refine subH_same rfl ?_ | (refine subH_blk rfl (by repeat' first | exact sub_nil | refine sub_cons rfl ?_) ?_)), ⟨.inl (by kernel_rfl), trivial⟩⟩ ?_))
           clear hK68
           first
             | (change _ at hx64
                obtain ⟨la', ela⟩ : ∃ l, l = la.drop 1 := ⟨_, rfl⟩
                obtain ⟨lb', elb⟩ : ∃ l, l = lb := ⟨_, rfl⟩
                obtain ⟨out', eo⟩ : ∃ l, l = out ++ [x64] := ⟨_, rfl⟩)
             | (change _ at hx87
                obtain ⟨la', ela⟩ : ∃ l, l = la := ⟨_, rfl⟩
                obtain ⟨lb', elb⟩ : ∃ l, l = lb.drop 1 := ⟨_, rfl⟩
                obtain ⟨out', eo⟩ : ∃ l, l = out ++ [x87] := ⟨_, rfl⟩)
             | (change _ at hx32
                obtain ⟨la', ela⟩ : ∃ l, l = la.drop 1 := ⟨_, rfl⟩
                obtain ⟨lb', elb⟩ : ∃ l, l = lb.drop 1 := ⟨_, rfl⟩
                obtain ⟨out', eo⟩ : ∃ l, l = out ++ [x32] := ⟨_, rfl⟩)
             | (change _ at hx24
                obtain ⟨la', ela⟩ : ∃ l, l = la.drop 1 := ⟨_, rfl⟩
                obtain ⟨lb', elb⟩ : ∃ l, l = lb.drop 1 := ⟨_, rfl⟩
                obtain ⟨out', eo⟩ : ∃ l, l = out ++ [x24] := ⟨_, rfl⟩)
             | skip
           refine aq_r 8 999 rfl (by kernel_rfl) (by kernel_rfl) (by kernel_rfl) (.head _) (by kernel_rfl) (by kernel_rfl) rfl (r_assign rfl) ?_
           refine aq_r 9 999 rfl (by kernel_rfl) (by kernel_rfl) (by kernel_rfl) (.head _) (by kernel_rfl) (by kernel_rfl) rfl (r_assign rfl) ?_
           refine aq_r 10 999 rfl (by kernel_rfl) (by kernel_rfl) (by kernel_rfl) (.head _) (by kernel_rfl) (by kernel_rfl) rfl (r_assign rfl) ?_
           refine aq_done (by kernel_rfl) ?_
           refine (to_k0 (fun _ _ h => h) (hK8 (((_, _, _, la'), (_, _, _, lb'), _, _, _, out')) _ _ ?_ ?_ (sub_cons rfl (sub_cons rfl (sub_cons rfl sub_nil))) (sub_cons rfl (sub_cons rfl sub_nil)) (by exact (subH_row rfl (by first | (dsimp only; rw [eo, encBest_snoc]; rfl; done) | (rw [eo, encBest_snoc]; rfl; done) | (dsimp only; done)) subH_nil)) subH_nil))
           ·try dsimp only
            first
              | (exfalso; omega)
              | (change _ at hx64
                 rw [ela, elb, eo]
                 refine ⟨rd_tail hl69 hna, hlb, ?_, by simp [hko], by omega⟩
                 have hq : lb = [] ∨ ∃ y, lb[0]? = some y ∧ x64.size < y.size := by
                   first
                     | exact .inl (List.eq_nil_of_length_eq_zero (by omega))
                     | (obtain rfl := Option.some.inj (hx52.symm.trans hx64)
                        exact .inr ⟨_, hx56, hc42⟩)
                 rw [hP, mg_left hx64 hq, List.append_assoc]
                 rfl)
              | (change _ at hx87
                 rw [ela, elb, eo]
                 refine ⟨hla, rd_tail hl92 hnb, ?_, by simp [hko], by omega⟩
                 have hq : la = [] ∨ ∃ x, la[0]? = some x ∧ x87.size < x.size := by
                   first
                     | exact .inl (List.eq_nil_of_length_eq_zero (by omega))
                     | (obtain rfl := Option.some.inj (hx76.symm.trans hx87)
                        exact .inr ⟨_, hx80, hc70⟩)
                 rw [hP, mg_right hx87 hq, List.append_assoc]
                 rfl)
              | (change _ at hx32
                 rw [ela, elb, eo]
                 refine ⟨rd_tail hl39 hna, rd_tail hl41 hnb, ?_, by simp [hko], by omega⟩
                 obtain rfl := Option.some.inj (hx52.symm.trans hx24)
                 obtain rfl := Option.some.inj (hx56.symm.trans hx28)
                 obtain rfl := Option.some.inj (hx76.symm.trans hx28)
                 obtain rfl := Option.some.inj (hx80.symm.trans hx24)
                 obtain rfl := Option.some.inj (hx28.symm.trans hx32)
                 rw [hP, mg_both hx24 hx28 hc42 hc70, if_pos hc30, List.append_assoc]
                 rfl)
              | (change _ at hx24
                 rw [ela, elb, eo]
                 refine ⟨rd_tail hl39 hna, rd_tail hl41 hnb, ?_, by simp [hko], by omega⟩
                 obtain rfl := Option.some.inj (hx52.symm.trans hx24)
                 obtain rfl := Option.some.inj (hx56.symm.trans hx28)
                 obtain rfl := Option.some.inj (hx76.symm.trans hx28)
                 obtain rfl := Option.some.inj (hx80.symm.trans hx24)
                 rw [hP, mg_both hx24 hx28 hc42 hc70, if_neg (by rw [hc30]; simp), List.append_assoc]
                 rfl)
           ·try dsimp only
            omega
     ·refine wp_exit' (to_k0 (fun _ _ h => h) (hK7 _ _ _ _ _ ?_))
      clear hK7
      refine wp_seq' fun K69 hK69 => ?_
      refine wp_seq' fun K70 hK70 => ?_
      refine wp_reg ?_
      refine ol_r (r_move rfl) rfl ?_
      refine ol_r (r_len rfl sl38) rfl ?_
      refine ol_r (r_gtr rfl rfl) rfl ?_
      refine ol_nil (to_k0 (fun _ _ h => h) (hK70 _ _ _ _ _ ?_))
      clear hK70
      first | refine wp_condD rfl (fun hc95 => ?_) (fun hc95 => ?_) | refine wp_condN rfl (fun hc95 => ?_) (fun hc95 => ?_) | refine wp_condNB rfl (fun hc95 => ?_) (fun hc95 => ?_) | refine wp_cond' rfl (fun hc95 => ?_) (fun hc95 => ?_)
      ·refine wp_seq' fun K71 hK71 => ?_
       refine wp_reg ?_
       refine ol_r (r_assign rfl) rfl ?_
       refine ol_r (r_assign rfl) rfl ?_
       refine ol_nil (to_k0 (fun _ _ h => h) (hK71 _ _ _ _ _ ?_))
       clear hK71
       refine hQ.ret (rvs2 (rv_t rfl) (rv_t rfl)) (fun _ _ h => h) fun w hb hs hB hkd => ?_
       have hX := chkC_ok (orR2 hc13).1
       have hY := chkC_ok (orR2 hc13).2
       obtain rfl : la = [] := List.eq_nil_of_length_eq_zero (by omega)
       obtain rfl : lb = [] := List.eq_nil_of_length_eq_zero (by omega)
       rw [mgR_nil, List.append_nil] at hP
       have hlen : (mgR xs ys).length = ko := by rw [hP]; exact hko
       first
         | (refine ⟨none, 0, 0, ?_, ?_⟩ <;> rw [mergeV_of hX hY, if_pos (by omega)]
            exact Fresh.nil hb)
         | (refine ⟨oa, ko, oc, ?_, ?_⟩ <;> rw [mergeV_of hX hY, if_neg (by omega)]
            have h7 := hs.ok 7 _ rfl
            rw [← hP] at h7
            exact ⟨hb, h7⟩)
      ·refine wp_skip' (to_k0 (fun _ _ h => h) (hK69 _ _ _ _ _ ?_))
       clear hK69
       refine wp_seq' fun K72 hK72 => ?_
       refine wp_reg ?_
       refine ol_r (r_move rfl) rfl ?_
       refine ol_r (r_assign rfl) rfl ?_
       refine ol_r (r_assign rfl) rfl ?_
       refine ol_nil (to_k0 (fun _ _ h => h) (hK72 _ _ _ _ _ ?_))
       clear hK72
       refine hQ.ret (rvs2 (rv_t rfl) (rv_t rfl)) (fun _ _ h => h) fun w hb hs hB hkd => ?_
       have hX := chkC_ok (orR2 hc13).1
       have hY := chkC_ok (orR2 hc13).2
       obtain rfl : la = [] := List.eq_nil_of_length_eq_zero (by omega)
       obtain rfl : lb = [] := List.eq_nil_of_length_eq_zero (by omega)
       rw [mgR_nil, List.append_nil] at hP
       have hlen : (mgR xs ys).length = ko := by rw [hP]; exact hko
       first
         | (refine ⟨none, 0, 0, ?_, ?_⟩ <;> rw [mergeV_of hX hY, if_pos (by omega)]
            exact Fresh.nil hb)
         | (refine ⟨oa, ko, oc, ?_, ?_⟩ <;> rw [mergeV_of hX hY, if_neg (by omega)]
            have h7 := hs.ok 7 _ rfl
            rw [← hP] at h7
            exact ⟨hb, h7⟩)
end Go.Proofs.Ytafkojlccknicaa
