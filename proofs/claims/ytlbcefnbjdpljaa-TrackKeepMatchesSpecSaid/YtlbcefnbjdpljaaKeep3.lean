/-
  TrackKeepMatchesSpec: Keep of both, and the law.
-/
import Derived.Test.YtlbcefnbjdpljaaKeep2
namespace Go.Proofs.Ytlbcefnbjdpljaa
open Go Go.RowKit Hx
set_option linter.unusedVariables false
set_option linter.unusedSimpArgs false
set_option maxRecDepth 8000
theorem tab_congr {n : Nat} {f g : Nat → Int} (h : ∀ j, j < n → f j = g j) : tab n f = tab n g := by
  unfold tab
  apply List.map_congr_left
  intro j hj
  exact h j (List.mem_range.1 hj)
section
variable (ag : Nat → Nat → Bool) (n : Nat)
def midL (m p j : Nat) : Int := if j = n - 1 - m then bestU ag (keepL ag n m) (n - 1 - m) p else keepL ag n m j
def midN (m c j : Nat) : Nat := if j = n - 1 - m then dnK ag n (keepL ag n m) (n - 1 - m) c else nextL ag n m j
variable {ag n} {m i k : Nat}
theorem mid_zero (hm : m < n) (hi : n - 1 - m = i) : tab n (keepL ag n m) = tab n (midL ag n m (i + 1 - (i + 1))) := by
  refine tab_congr fun j hj => ?_
  unfold midL
  split
  · rename_i h; subst h; rw [Nat.sub_self, keepL_low m _ (by omega) (by omega)]; rfl
  · rfl
theorem mid_ne {p : Nat} (h : k ≠ n - 1 - m) : midL ag n m p k = keepL ag n m k := if_neg h
theorem mid_eq {p : Nat} (hi : n - 1 - m = i) : midL ag n m p i = bestU ag (keepL ag n m) i p := by subst hi; exact if_pos rfl
theorem mid_yes (hm : m < n) (hi : n - 1 - m = i) (hk1 : i + 1 ≤ k) (hk : k < n) (hb : bestU ag (keepL ag n m) i (k - (i + 1)) < keepL ag n m k) (ha : ag i k = true) :
    (tab n (midL ag n m (k - (i + 1)))).set i (keepL ag n m k) = tab n (midL ag n m (k + 1 - (i + 1))) := by
  subst hi
  refine tab_set (by omega) ?_ fun j hj _ => ?_
  · rw [mid_eq rfl, show k + 1 - (n - 1 - m + 1) = (k - (n - 1 - m + 1)) + 1 by omega, bestU, show n - 1 - m + 1 + (k - (n - 1 - m + 1)) = k by omega, if_pos ⟨hb, ha⟩]
  · rw [mid_ne hj, mid_ne hj]
theorem mid_no (hm : m < n) (hi : n - 1 - m = i) (hk1 : i + 1 ≤ k) (hk : k < n) (h : ¬(bestU ag (keepL ag n m) i (k - (i + 1)) < keepL ag n m k ∧ ag i k = true)) :
    tab n (midL ag n m (k - (i + 1))) = tab n (midL ag n m (k + 1 - (i + 1))) := by
  subst hi
  refine tab_congr fun j hj => ?_
  by_cases hji : j = n - 1 - m
  · subst hji
    rw [mid_eq rfl, mid_eq rfl, show k + 1 - (n - 1 - m + 1) = (k - (n - 1 - m + 1)) + 1 by omega, bestU, show n - 1 - m + 1 + (k - (n - 1 - m + 1)) = k by omega, if_neg h]
  · rw [mid_ne hji, mid_ne hji]
theorem mid_done (hm : m < n) (hi : n - 1 - m = i) (hk : k = n) : (tab n (midL ag n m (k - (i + 1)))).set i (bestU ag (keepL ag n m) i (k - (i + 1)) + 1) = tab n (keepL ag n (m + 1)) := by
  subst hi
  subst hk
  refine tab_set (by omega) ?_ fun j hj _ => ?_
  · rw [show k - (k - 1 - m + 1) = m by omega, bestU_eq hm, keepL, if_pos rfl]
  · rw [mid_ne hj, keepL, if_neg hj]
theorem best_bd (hm : m < n) (hi : n - 1 - m = i) (hk : k = n) : 0 ≤ bestU ag (keepL ag n m) i (k - (i + 1)) ∧ bestU ag (keepL ag n m) i (k - (i + 1)) ≤ n := by
  subst hi
  subst hk
  rw [show k - (k - 1 - m + 1) = m by omega, bestU_eq hm]
  have := keepL_pos (ag := ag) (n := k) m (dnK ag k (keepL ag k m) (k - 1 - m) m) (by omega)
  omega
theorem keepL_set {N : Nat} (hm : m < n) (hN : n ≤ N) (hi : n - 1 - m = i) : (tab N (keepL ag n m)).set i (keepL ag n m (dnK ag n (keepL ag n m) i m) + 1) = tab N (keepL ag n (m + 1)) := by
  subst hi
  refine tab_set (by omega) ?_ fun j hj _ => ?_
  · rw [keepL, if_pos rfl]
  · rw [keepL, if_neg hj]
theorem midn_eq {c : Nat} (hi : n - 1 - m = i) : midN ag n m c i = dnK ag n (keepL ag n m) i c := by subst hi; exact if_pos rfl
theorem midn_ne {c : Nat} (h : k ≠ n - 1 - m) : midN ag n m c k = nextL ag n m k := if_neg h
theorem midn_zero {N : Nat} (hm : m < n) (hN : n ≤ N) (hi : n - 1 - m = i) : (tab N fun j => (nextL ag n m j : Int)).set i n = tab N fun j => (midN ag n m 0 j : Int) := by
  subst hi
  refine tab_set (by omega) ?_ fun j hj _ => ?_
  · rw [midn_eq rfl]; rfl
  · rw [midn_ne hj]
theorem midn_yes {N c : Nat} (hm : m < n) (hN : n ≤ N) (hi : n - 1 - m = i) (hk : n - 1 - c = k) (h : ag i k = true ∧ keepL ag n m (dnK ag n (keepL ag n m) i c) ≤ keepL ag n m k) :
    (tab N fun j => (midN ag n m c j : Int)).set i k = tab N fun j => (midN ag n m (c + 1) j : Int) := by
  subst hi
  subst hk
  refine tab_set (by omega) ?_ fun j hj _ => ?_
  · rw [midn_eq rfl, dnK, if_pos h]
  · rw [midn_ne hj, midn_ne hj]
theorem midn_no {N c : Nat} (hi : n - 1 - m = i) (hk : n - 1 - c = k) (h : ¬(ag i k = true ∧ keepL ag n m (dnK ag n (keepL ag n m) i c) ≤ keepL ag n m k)) :
    (tab N fun j => (midN ag n m c j : Int)) = tab N fun j => (midN ag n m (c + 1) j : Int) := by
  subst hi
  subst hk
  refine tab_congr fun j hj => ?_
  by_cases hji : j = n - 1 - m
  · subst hji
    rw [midn_eq rfl, midn_eq rfl, dnK, if_neg h]
  · rw [midn_ne hji, midn_ne hji]
theorem midn_done {N : Nat} : (tab N fun j => (midN ag n m m j : Int)) = tab N fun j => (nextL ag n (m + 1) j : Int) := by
  refine tab_congr fun j hj => ?_
  rw [nextL]; rfl
end
/-- The number that a statement tells. -/
noncomputable def theI (F : Int → Prop) : Int := open Classical in if h : ∃ r, F r then Classical.choose h else 0
theorem theI_eq {F : Int → Prop} (hu : ∀ a b, F a → F b → a = b) {r : Int} (h : F r) : theI F = r := by
  unfold theI
  rw [dif_pos ⟨r, h⟩]
  exact hu _ _ (Classical.choose_spec (⟨r, h⟩ : ∃ r, F r)) h
def maxP (xs : List Int) (m : Int) : Prop := m ∈ xs ∧ ∀ x ∈ xs, x ≤ m
def idxF (xs : List Int) (v r : Int) : Prop := (r = -1 ∧ ∀ j : Nat, xs[j]? ≠ some v) ∨ ∃ k : Nat, r = k ∧ xs[k]? = some v ∧ ∀ j : Nat, j < k → xs[j]? ≠ some v
theorem maxP_one {xs : List Int} : ∀ a b, maxP xs a → maxP xs b → a = b := fun a b h h' => by
  have h1 := h.2 b h'.1
  have h2 := h'.2 a h.1
  omega
theorem idxF_one {xs : List Int} {v : Int} : ∀ a b, idxF xs v a → idxF xs v b → a = b := by
  rintro a b (⟨rfl, h⟩ | ⟨k, rfl, hk, hm⟩) (⟨rfl, h'⟩ | ⟨k', rfl, hk', hm'⟩)
  · rfl
  · exact absurd hk' (h k')
  · exact absurd hk (h' k)
  · rcases Nat.lt_trichotomy k k' with h | h | h
    · exact absurd hk (hm' k h)
    · rw [h]
    · exact absurd hk' (hm k' h)
theorem first_is {ag : Nat → Nat → Bool} {n : Nat} (hn : 0 < n) : theI (idxF (tab n (keepL ag n n)) (theI (maxP (tab n (keepL ag n n))))) = (firstL ag n n : Nat) := by
  obtain ⟨f1, f2, f3⟩ := firstL_spec (ag := ag) (n := n) n (Nat.le_refl _)
  have hF : firstL ag n n < n := by omega
  have hmx : theI (maxP (tab n (keepL ag n n))) = keepL ag n n (firstL ag n n) := by
    refine theI_eq maxP_one ⟨List.mem_of_getElem? (tab_at (f := keepL ag n n) hF), fun x hx => ?_⟩
    obtain ⟨j, hj⟩ := List.getElem?_of_mem hx
    obtain ⟨h1, rfl⟩ := tab_get hj
    exact f2 j (by omega) h1
  rw [hmx]
  refine theI_eq idxF_one (.inr ⟨firstL ag n n, rfl, tab_at hF, fun j hj h => ?_⟩)
  obtain ⟨h1, h2⟩ := tab_get h
  have := f3 j (by omega) hj h1
  omega
theorem slices_MaxI (a : Option Addr) (n cap : Nat) (xs : List Int) (w : World) (hl : Rd encI w.heap.size w a n cap xs) (hn : 0 < n) :
    Calls Try.prog 55 #[.slice a n cap] w fun e w' => e = .returned (.int .i64 (theI (maxP xs))) ∧ Below w.heap.size w w' := by
  refine Calls.mono (slices_Max a n cap xs w hl hn) ?_
  rintro e w' ⟨m, hm, rfl, hb⟩
  exact ⟨by rw [theI_eq maxP_one hm], hb⟩
theorem slices_IndexI (a : Option Addr) (n cap : Nat) (xs : List Int) (v : Int) (w : World) (hl : Rd encI w.heap.size w a n cap xs) :
    Calls Try.prog 54 #[.slice a n cap, .int .i64 v] w fun e w' => e = .returned (.int .i64 (theI (idxF xs v))) ∧ Below w.heap.size w w' := by
  refine Calls.mono (slices_Index a n cap xs v w hl) ?_
  rintro e w' ⟨m, hm, rfl, hb⟩
  exact ⟨by rw [theI_eq idxF_one hm], hb⟩
theorem track_Keep (A : ActV) (fast : Int) (w : World) (hA : A.Ok w.heap.size w) :
    Calls Try.prog 26 #[.agg #[.string A.name, .int .i64 A.sport, .int .i64 A.start, .slice A.sa A.sn A.sc, .slice A.la A.ln A.lc, .slice A.ta A.tn A.tc], .int .i64 fast] w fun e w' => ∃ b m k, e = .returned (.tuple #[.slice b m k, .int .i64 (keepR A.d fast).2]) ∧ Fresh encI 3 w w' b m k (keepR A.d fast).1 := by
  have hsn := hA.s.len
  have hsf := hA.s.fit
  refine enterQ (N := 90) (C := fun _ => True) (H := []) (B := w.heap.size) (args := [_, _]) Try.func26 rfl rfl rfl (Nat.le_refl _) (Sat.nil _ _) fun Q hQ => ?_
  refine wp_seq' fun K1 hK1 => ?_
  refine wp_reg ?_
  refine ol_box 2 rfl rfl rfl fun b2 => ?_
  refine ol_box 3 rfl rfl rfl fun b3 => ?_
  refine ol_r (r_assign rfl) rfl ?_
  refine ol_r (r_assign rfl) rfl ?_
  refine ol_nil (to_k0 (fun _ _ h => h) (hK1 _ _ _ _ _ ?_))
  clear hK1
  refine wp_seq' fun K2 hK2 => ?_
  refine wp_seq' fun K3 hK3 => ?_
  refine wp_reg ?_
  refine ol_r (r_lda (id := 2) (n := 6) rfl rfl rfl ag26) rfl ?_
  refine ol_call rfl rfl cb36 rfl (fun w1 hb1 hs1 hB1 => Calls.mono (record_Check A _ (hA.at hb1 hB1)) ?_)
  rintro e w2 ⟨rfl, hb2⟩
  refine After.below rfl hb1 hs1 hB1 hb2 ?_
  clear hb2 hB1 hs1 hb1 w2 w1
  refine ol_r (r_assign rfl) rfl ?_
  refine ol_nil (to_k0 (fun _ _ h => h) (hK3 _ _ _ _ _ ?_))
  clear hK3
  refine wp_seq' fun K4 hK4 => ?_
  refine wp_reg ?_
  refine ol_r (r_move rfl) rfl ?_
  refine ol_r (r_neq rfl rfl) rfl ?_
  refine ol_nil (to_k0 (fun _ _ h => h) (hK4 _ _ _ _ _ ?_))
  clear hK4
  first | refine wp_condD rfl (fun hc15 => ?_) (fun hc15 => ?_) | refine wp_condN rfl (fun hc15 => ?_) (fun hc15 => ?_) | refine wp_condNB rfl (fun hc15 => ?_) (fun hc15 => ?_) | refine wp_cond' rfl (fun hc15 => ?_) (fun hc15 => ?_)
  ·refine wp_seq' fun K5 hK5 => ?_
   refine wp_reg ?_
   refine ol_r (r_move rfl) rfl ?_
   refine ol_r (r_assign rfl) rfl ?_
   refine ol_r (r_assign rfl) rfl ?_
   refine ol_nil (to_k0 (fun _ _ h => h) (hK5 _ _ _ _ _ ?_))
   clear hK5
   refine hQ.ret (rvs2 (rv_t rfl) (rv_t rfl)) (fun _ _ h => h) fun w hb hs hB hkd => ?_
   have h := keepR_e (f := fast) hc15
   exact ⟨none, 0, 0, by rw [h], by rw [h]; exact Fresh.nil hb⟩
  ·refine wp_skip' (to_k0 (fun _ _ h => h) (hK2 _ _ _ _ _ ?_))
   clear hK2
   refine wp_seq' fun K6 hK6 => ?_
   refine wp_reg ?_
   refine ol_r (r_fa (o' := 3) rfl fl26_3 rfl) rfl ?_
   refine ol_r (r_ld (id := 2) rfl rfl rfl sc22) rfl ?_
   refine ol_r (r_len rfl sl22) rfl ?_
   refine ol_alloc 7 z3 rfl fun b7 => ?_
   refine ol_store (id := 7) rfl rfl rfl rfl sz3 rfl rfl (by first | decide | exact Nat.zero_lt_succ _ | simp) ?_
   refine ol_nil (to_k0 (fun _ _ h => h) (hK6 _ _ _ _ _ ?_))
   clear hK6
   refine wp_seq' fun K7 hK7 => ?_
   refine wp_block' ?_
   refine wp_seq' fun K8 hK8 => ?_
   refine wp_reg ?_
   refine ol_r (r_ld (id := 3) rfl rfl rfl sc3) rfl ?_
   refine ol_call rfl rfl cb37 rfl (fun w1 hb1 hs1 hB1 => Calls.mono (track_in _ _ _ _) ?_)
   rintro e w2 ⟨rfl, hb2⟩
   refine After.below rfl hb1 hs1 hB1 hb2 ?_
   clear hb2 hB1 hs1 hb1 w2 w1
   refine ol_r (r_not rfl) rfl ?_
   refine ol_r (r_assign rfl) rfl ?_
   refine ol_nil (to_k0 (fun _ _ h => h) (hK8 _ _ _ _ _ ?_))
   clear hK8
   first | refine wp_condD rfl (fun hc20 => ?_) (fun hc20 => ?_) | refine wp_condN rfl (fun hc20 => ?_) (fun hc20 => ?_) | refine wp_condNB rfl (fun hc20 => ?_) (fun hc20 => ?_) | refine wp_cond' rfl (fun hc20 => ?_) (fun hc20 => ?_)
   ·refine wp_seq' fun K9 hK9 => ?_
    refine wp_reg ?_
    refine ol_r (r_assign rfl) rfl ?_
    refine ol_r (r_assign rfl) rfl ?_
    refine ol_nil (to_k0 (fun _ _ h => h) (hK9 _ _ _ _ _ ?_))
    clear hK9
    refine hQ.ret (rvs2 (rv_t rfl) (rv_t rfl)) (fun _ _ h => h) fun w hb hs hB hkd => ?_
    have h := keepR_9 (f := fast) (Decidable.not_not.1 hc15) (fun h => by have := inB_iff.2 h; rw [this] at hc20; cases hc20)
    exact ⟨none, 0, 0, by rw [h], by rw [h]; exact Fresh.nil hb⟩
   ·refine wp_seq' fun K10 hK10 => ?_
    refine wp_reg ?_
    refine ol_r (r_ld (id := 7) rfl rfl rfl sc3) rfl ?_
    refine ol_r (r_gtr rfl rfl) rfl ?_
    refine ol_r (r_assign rfl) rfl ?_
    refine ol_nil (to_k0 (fun _ _ h => h) (hK10 _ _ _ _ _ ?_))
    clear hK10
    first | refine wp_condD rfl (fun hc24 => ?_) (fun hc24 => ?_) | refine wp_condN rfl (fun hc24 => ?_) (fun hc24 => ?_) | refine wp_condNB rfl (fun hc24 => ?_) (fun hc24 => ?_) | refine wp_cond' rfl (fun hc24 => ?_) (fun hc24 => ?_)
    ·refine wp_seq' fun K11 hK11 => ?_
     refine wp_reg ?_
     refine ol_r (r_assign rfl) rfl ?_
     refine ol_r (r_assign rfl) rfl ?_
     refine ol_nil (to_k0 (fun _ _ h => h) (hK11 _ _ _ _ _ ?_))
     clear hK11
     refine hQ.ret (rvs2 (rv_t rfl) (rv_t rfl)) (fun _ _ h => h) fun w hb hs hB hkd => ?_
     have h := keepR_3 (a := A.d) (f := fast) (Decidable.not_not.1 hc15) (inB_iff.1 hc20) (by show 2000 < A.ss.length; omega)
     exact ⟨none, 0, 0, by rw [h], by rw [h]; exact Fresh.nil hb⟩
    ·refine wp_seq' fun K12 hK12 => ?_
     refine wp_reg ?_
     refine ol_r (r_ld (id := 7) rfl rfl rfl sc3) rfl ?_
     refine ol_r (r_eql rfl rfl) rfl ?_
     refine ol_r (r_assign rfl) rfl ?_
     refine ol_nil (to_k0 (fun _ _ h => h) (hK12 _ _ _ _ _ ?_))
     clear hK12
     first | refine wp_condD rfl (fun hc27 => ?_) (fun hc27 => ?_) | refine wp_condN rfl (fun hc27 => ?_) (fun hc27 => ?_) | refine wp_condNB rfl (fun hc27 => ?_) (fun hc27 => ?_) | refine wp_cond' rfl (fun hc27 => ?_) (fun hc27 => ?_)
     ·refine wp_seq' fun K13 hK13 => ?_
      refine wp_reg ?_
      refine ol_r (r_assign rfl) rfl ?_
      refine ol_r (r_assign rfl) rfl ?_
      refine ol_nil (to_k0 (fun _ _ h => h) (hK13 _ _ _ _ _ ?_))
      clear hK13
      refine hQ.ret (rvs2 (rv_t rfl) (rv_t rfl)) (fun _ _ h => h) fun w hb hs hB hkd => ?_
      have h := keepR_0 (a := A.d) (f := fast) (Decidable.not_not.1 hc15) (inB_iff.1 hc20) (by show ¬2000 < A.ss.length; omega)
      rw [chainK_stop (by show A.ss.length ≤ _; omega)] at h
      exact ⟨none, 0, 0, by rw [h], by rw [h]; exact Fresh.nil hb⟩
     ·refine wp_skip' (to_k0 (fun _ _ h => h) (hK7 _ _ _ _ _ ?_))
      clear hK7
      refine wp_seq' fun K14 hK14 => ?_
      refine wp_reg ?_
      refine ol_r (r_ld (id := 7) rfl rfl rfl sc3) rfl ?_
      refine ol_make encI (0) 31 rfl rfl rw34 z3 rfl rfl (by omega) rfl fun a31 => ?_
      have h0 : chkA A.d = 0 := Decidable.not_not.1 hc15
      have hok : SmpOk A.start A.ss := (goodA h0).smp
      have hl20 := hok.len
      have hin : 1 ≤ fast ∧ fast ≤ 100000 := inB_iff.1 hc20
      try simp only [Int.toNat_natCast]
      refine ol_alloc 8 z34 rfl fun b8 => ?_
      refine ol_store (id := 8) rfl rfl rfl rfl sz34 rfl rfl (by first | decide | exact Nat.zero_lt_succ _ | simp) ?_
      refine ol_nil (to_k0 (fun _ _ h => h) (hK14 _ _ _ _ _ ?_))
      clear hK14
      refine wp_seq' fun K15 hK15 => ?_
      refine wp_seq' fun K16 hK16 => ?_
      refine wp_reg ?_
      refine ol_r (r_ld (id := 7) rfl rfl rfl sc3) rfl ?_
      refine ol_r (r_sub rfl rfl (by omega)) rfl ?_
      refine ol_r (r_assign rfl) rfl ?_
      refine ol_nil (to_k0 (fun _ _ h => h) (hK16 _ _ _ _ _ ?_))
      clear hK16
      refine wp_block' ?_
      apply wp_loopM (σ := Int × Nat) (fun s => s.1 = A.ss.length - 1 - s.2 ∧ s.2 ≤ A.ss.length) (fun s => [(9, .int .i64 s.1)]) [(2, _), (3, _), (4, _), (5, _), (7, _), (8, _)] (fun s => [(31, .row a31 A.sn A.sn (encI.enc (tab A.ss.length (keepL (agS A.ss fast) A.ss.length s.2))) 3 1)]) [(2, _), (3, _), (7, _), (8, _)] (fun s => A.ss.length - s.2) (((A.sn : Int) - 1, 0))
      ·try dsimp only
       exact ⟨by omega, Nat.zero_le _⟩
      ·exact (sub_cons rfl sub_nil)
      ·exact (sub_cons rfl (sub_cons rfl (sub_cons rfl (sub_cons rfl (sub_cons rfl (sub_cons rfl sub_nil))))))
      ·exact (subH_row rfl (by first | (dsimp only; first | rfl | (rw [← hsn, tab_zero]; rfl); done) | (first | rfl | (rw [← hsn, tab_zero]; rfl); done) | (dsimp only; done)) subH_nil)
      ·exact (subH_same rfl (subH_same rfl (subH_same rfl (subH_same rfl subH_nil))))
      ·rintro ⟨i, m⟩ ⟨hi, hm⟩
       dsimp only at hi hm ⊢
       intro K17 hK17
       refine wp_seq' fun K18 hK18 => ?_
       refine wp_seq' fun K19 hK19 => ?_
       refine wp_reg ?_
       refine ol_r (r_move rfl) rfl ?_
       refine ol_r (r_geq rfl rfl) rfl ?_
       refine ol_nil (to_k0 (fun _ _ h => h) (hK19 _ _ _ _ _ ?_))
       clear hK19
       first | refine wp_condD rfl (fun hc35 => ?_) (fun hc35 => ?_) | refine wp_condN rfl (fun hc35 => ?_) (fun hc35 => ?_) | refine wp_condNB rfl (fun hc35 => ?_) (fun hc35 => ?_) | refine wp_cond' rfl (fun hc35 => ?_) (fun hc35 => ?_)
       ·refine wp_skip' (to_k0 (fun _ _ h => h) (hK18 _ _ _ _ _ ?_))
        clear hK18
        refine wp_seq' fun K20 hK20 => ?_
        refine wp_block' ?_
        refine wp_seq' fun K21 hK21 => ?_
        refine wp_seq' fun K22 hK22 => ?_
        refine wp_reg ?_
        obtain ⟨iN, hiN⟩ := Int.eq_ofNat_of_zero_le (show 0 ≤ i by omega)
        subst hiN
        have hmn : m < A.ss.length := by omega
        have hmi : A.ss.length - 1 - m = iN := by omega
        refine ol_r (r_move rfl) rfl ?_
        refine ol_r (r_add rfl rfl (by omega)) rfl ?_
        refine ol_r (r_assign rfl) rfl ?_
        refine ol_nil (to_k0 (fun _ _ h => h) (hK22 _ _ _ _ _ ?_))
        clear hK22
        refine wp_block' ?_
        apply wp_loopM (σ := Nat) (fun s => iN + 1 ≤ s ∧ s ≤ A.ss.length) (fun s => [(10, .int .i64 s)]) [(2, _), (3, _), (4, _), (5, _), (7, _), (8, _), (9, _)] (fun s => [(31, .row a31 A.sn A.sn (encI.enc (tab A.ss.length (midL (agS A.ss fast) A.ss.length m (s - (iN + 1))))) 3 1)]) [(2, _), (3, _), (7, _), (8, _)] (fun s => A.ss.length - s) (iN + 1)
        ·try dsimp only
         exact ⟨Nat.le_refl _, by omega⟩
        ·exact (sub_cons rfl sub_nil)
        ·exact (sub_cons rfl (sub_cons rfl (sub_cons rfl (sub_cons rfl (sub_cons rfl (sub_cons rfl (sub_cons rfl sub_nil)))))))
        ·exact (subH_row rfl (by first | (dsimp only; exact congrArg encI.enc (mid_zero hmn hmi).symm; done) | (exact congrArg encI.enc (mid_zero hmn hmi).symm; done) | (dsimp only; done)) subH_nil)
        ·exact (subH_same rfl (subH_same rfl (subH_same rfl (subH_same rfl subH_nil))))
        ·rintro k ⟨hk1, hk2⟩
         intro K23 hK23
         refine wp_seq' fun K24 hK24 => ?_
         refine wp_seq' fun K25 hK25 => ?_
         refine wp_reg ?_
         refine ol_r (r_move rfl) rfl ?_
         refine ol_r (r_ld (id := 7) rfl rfl rfl sc3) rfl ?_
         refine ol_r (r_lss rfl rfl) rfl ?_
         refine ol_nil (to_k0 (fun _ _ h => h) (hK25 _ _ _ _ _ ?_))
         clear hK25
         first | refine wp_condD rfl (fun hc42 => ?_) (fun hc42 => ?_) | refine wp_condN rfl (fun hc42 => ?_) (fun hc42 => ?_) | refine wp_condNB rfl (fun hc42 => ?_) (fun hc42 => ?_) | refine wp_cond' rfl (fun hc42 => ?_) (fun hc42 => ?_)
         ·refine wp_skip' (to_k0 (fun _ _ h => h) (hK24 _ _ _ _ _ ?_))
          clear hK24
          refine wp_seq' fun K26 hK26 => ?_
          refine wp_block' ?_
          refine wp_seq' fun K27 hK27 => ?_
          refine wp_regq (by kernel_rfl) (by kernel_rfl) ?_
          have htl := tab_len A.ss.length (midL (agS A.ss fast) A.ss.length m (k - (iN + 1)))
          refine ql_r (r_ld (id := 8) rfl rfl rfl sc34) rfl ?_
          refine ql_r (r_move rfl) rfl ?_
          refine ql_ixo (id := 31) encI _ rfl rfl rfl rfl sl34 (by omega) (by omega) rfl fun x47 hx47 => ?_
          try simp only [Int.toNat_natCast] at hx47
          try simp only [Int.toNat_natCast] at hx47
          refine ql_r (r_ldw rfl (fun w1 hb1 hs1 hB1 => show Loads _ _ _ _ (.int .i64 x47) from ld_own (id := 31) hs1 rfl rfl ty3 hx47)) rfl ?_
          refine ql_r (r_ld (id := 8) rfl rfl rfl sc34) rfl ?_
          refine ql_r (r_move rfl) rfl ?_
          refine ql_ixo (id := 31) encI _ rfl rfl rfl rfl sl34 (by omega) (by omega) rfl fun x51 hx51 => ?_
          try simp only [Int.toNat_natCast] at hx51
          try simp only [Int.toNat_natCast] at hx51
          refine ql_r (r_ldw rfl (fun w1 hb1 hs1 hB1 => show Loads _ _ _ _ (.int .i64 x51) from ld_own (id := 31) hs1 rfl rfl ty3 hx51)) rfl ?_
          have h47 := (tab_get hx47).2
          rw [mid_ne (by omega)] at h47
          have h51 := (tab_get hx51).2
          rw [mid_eq hmi] at h51
          refine ql_r (r_gtr rfl rfl) rfl ?_
          refine ql_r (r_move rfl) rfl ?_
          refine ql_split (d := 54) rfl (fun hs54 => ?_) (fun hs54 => ?_)
          ·have phs54 := hs54; try simp only [decide_eq_true_eq, decide_eq_false_iff_not, Bool.not_eq_true', Bool.not_eq_false', Bool.not_true, Bool.not_false] at phs54
           refine ql_g rfl rfl hs54 ?_
           refine ql_r (r_fa (o' := 3) rfl fl26_3 rfl) rfl ?_
           refine ql_g rfl rfl hs54 ?_
           refine ql_r (r_ld (id := 2) rfl rfl rfl sc22) rfl ?_
           refine ql_g rfl rfl hs54 ?_
           refine ql_r (r_move rfl) rfl ?_
           refine ql_g rfl rfl hs54 ?_
           refine ql_ixr hA.s rfl rfl sl22 (by omega) rfl fun x58 hx58 => ?_
           try simp only [Int.toNat_natCast] at hx58
           refine ql_g rfl rfl hs54 ?_
           refine ql_r (r_ldw rfl (fun w1 hb1 hs1 hB1 => Rd.loads hA.s ty36 hx58 hb1)) rfl ?_
           refine ql_g rfl rfl hs54 ?_
           refine ql_r (r_fa (o' := 3) rfl fl26_3 rfl) rfl ?_
           refine ql_g rfl rfl hs54 ?_
           refine ql_r (r_ld (id := 2) rfl rfl rfl sc22) rfl ?_
           refine ql_g rfl rfl hs54 ?_
           refine ql_r (r_move rfl) rfl ?_
           refine ql_g rfl rfl hs54 ?_
           refine ql_ixr hA.s rfl rfl sl22 (by omega) rfl fun x63 hx63 => ?_
           try simp only [Int.toNat_natCast] at hx63
           refine ql_g rfl rfl hs54 ?_
           refine ql_r (r_ldw rfl (fun w1 hb1 hs1 hB1 => Rd.loads hA.s ty36 hx63 hb1)) rfl ?_
           refine ql_g rfl rfl hs54 ?_
           refine ql_r (r_ld (id := 3) rfl rfl rfl sc3) rfl ?_
           refine ql_g rfl rfl hs54 ?_
           refine ql_call rfl rfl cb53 rfl (fun w1 hb1 hs1 hB1 => track_agree fast x58 x63 _ hin (hok.place (List.mem_of_getElem? hx58)) (hok.place (List.mem_of_getElem? hx63)) (hok.at_lt hx58 hx63 (by omega)).1 (hok.at_lt hx58 hx63 (by omega)).2.1 (hok.at_lt hx58 hx63 (by omega)).2.2) ?_
           refine ql_r (r_pickT rfl hs54 rfl) rfl ?_
           refine ql_nil (to_k0 (fun _ _ h => h) (hK27 _ _ _ _ _ ?_))
           clear hK27
           first | refine wp_condD rfl (fun hc67 => ?_) (fun hc67 => ?_) | refine wp_condN rfl (fun hc67 => ?_) (fun hc67 => ?_) | refine wp_condNB rfl (fun hc67 => ?_) (fun hc67 => ?_) | refine wp_cond' rfl (fun hc67 => ?_) (fun hc67 => ?_)
           ·refine wp_regt 7 (by kernel_rfl) (by kernel_rfl) ?_
            simp only [List.take_succ_cons, List.take_zero, List.drop_succ_cons, List.drop_zero]
            refine sl_r (r_ld (id := 8) rfl rfl rfl sc34) rfl ?_
            refine sl_r (r_move rfl) rfl ?_
            refine sl_r (r_ld (id := 8) rfl rfl rfl sc34) rfl ?_
            refine sl_r (r_move rfl) rfl ?_
            refine sl_ixo (id := 31) encI _ rfl rfl rfl rfl sl34 (by omega) (by omega) rfl fun x72 hx72 => ?_
            try simp only [Int.toNat_natCast] at hx72
            try simp only [Int.toNat_natCast] at hx72
            refine sl_r (r_ldw rfl (fun w1 hb1 hs1 hB1 => show Loads _ _ _ _ (.int .i64 x72) from ld_own (id := 31) hs1 rfl rfl ty3 hx72)) rfl ?_
            have h72 := (tab_get hx72).2
            rw [mid_ne (by omega)] at h72
            refine sl_ixo (id := 31) encI _ rfl rfl rfl rfl sl34 (by omega) (by omega) rfl fun x74 hx74 => ?_
            try simp only [Int.toNat_natCast] at hx74
            try simp only [Int.toNat_natCast] at hx74
            refine sl_nil ?_
            refine ol_storeRow (id := 31) _ _ _ rfl rfl rfl rfl sz3 (by omega) ?_
            refine ol_nil (to_k0 (fun _ _ h => h) (hK26 _ _ _ _ _ ?_))
            clear hK26
            refine wp_reg ?_
            refine ol_r (r_move rfl) rfl ?_
            refine ol_r (r_add rfl rfl (by omega)) rfl ?_
            refine ol_r (r_assign rfl) rfl ?_
            refine ol_nil (to_k0 (fun _ _ h => h) (hK23 (k + 1) _ _ ?_ ?_ (sub_cons rfl sub_nil) (sub_cons rfl (sub_cons rfl (sub_cons rfl (sub_cons rfl (sub_cons rfl (sub_cons rfl (sub_cons rfl sub_nil))))))) (by exact (subH_row rfl (by first | (dsimp only; first | (rw [Int.toNat_natCast, h72]; exact congrArg encI.enc (mid_yes hmn hmi hk1 (by omega) (by omega) (by rw [agS_eq hx58 hx63]; exact decide_eq_true hc67)).symm) | exact congrArg encI.enc (mid_no hmn hmi hk1 (by omega) (fun h => by have := h.1; omega)).symm | exact congrArg encI.enc (mid_no hmn hmi hk1 (by omega) (fun h => hc67 (of_decide_eq_true ((agS_eq hx58 hx63).symm.trans h.2)))).symm; done) | (first | (rw [Int.toNat_natCast, h72]; exact congrArg encI.enc (mid_yes hmn hmi hk1 (by omega) (by omega) (by rw [agS_eq hx58 hx63]; exact decide_eq_true hc67)).symm) | exact congrArg encI.enc (mid_no hmn hmi hk1 (by omega) (fun h => by have := h.1; omega)).symm | exact congrArg encI.enc (mid_no hmn hmi hk1 (by omega) (fun h => hc67 (of_decide_eq_true ((agS_eq hx58 hx63).symm.trans h.2)))).symm; done) | (dsimp only; done)) subH_nil)) (subH_same rfl (subH_same rfl (subH_same rfl (subH_same rfl subH_nil))))))
            ·try dsimp only
             omega
            ·try dsimp only
             omega
           ·refine wp_skip' (to_k0 (fun _ _ h => h) (hK26 _ _ _ _ _ ?_))
            clear hK26
            refine wp_reg ?_
            refine ol_r (r_move rfl) rfl ?_
            refine ol_r (r_add rfl rfl (by omega)) rfl ?_
            refine ol_r (r_assign rfl) rfl ?_
            refine ol_nil (to_k0 (fun _ _ h => h) (hK23 (k + 1) _ _ ?_ ?_ (sub_cons rfl sub_nil) (sub_cons rfl (sub_cons rfl (sub_cons rfl (sub_cons rfl (sub_cons rfl (sub_cons rfl (sub_cons rfl sub_nil))))))) (by exact (subH_row rfl (by first | (dsimp only; first | (rw [Int.toNat_natCast, h72]; exact congrArg encI.enc (mid_yes hmn hmi hk1 (by omega) (by omega) (by rw [agS_eq hx58 hx63]; exact decide_eq_true hc67)).symm) | exact congrArg encI.enc (mid_no hmn hmi hk1 (by omega) (fun h => by have := h.1; omega)).symm | exact congrArg encI.enc (mid_no hmn hmi hk1 (by omega) (fun h => hc67 (of_decide_eq_true ((agS_eq hx58 hx63).symm.trans h.2)))).symm; done) | (first | (rw [Int.toNat_natCast, h72]; exact congrArg encI.enc (mid_yes hmn hmi hk1 (by omega) (by omega) (by rw [agS_eq hx58 hx63]; exact decide_eq_true hc67)).symm) | exact congrArg encI.enc (mid_no hmn hmi hk1 (by omega) (fun h => by have := h.1; omega)).symm | exact congrArg encI.enc (mid_no hmn hmi hk1 (by omega) (fun h => hc67 (of_decide_eq_true ((agS_eq hx58 hx63).symm.trans h.2)))).symm; done) | (dsimp only; done)) subH_nil)) (subH_same rfl (subH_same rfl (subH_same rfl (subH_same rfl subH_nil))))))
            ·try dsimp only
             omega
            ·try dsimp only
             omega
          ·have phs54 := hs54; try simp only [decide_eq_true_eq, decide_eq_false_iff_not, Bool.not_eq_true', Bool.not_eq_false', Bool.not_true, Bool.not_false] at phs54
           refine ql_s rfl rfl hs54 rfl ?_
           refine ql_s rfl rfl hs54 rfl ?_
           refine ql_s rfl rfl hs54 rfl ?_
           refine ql_s rfl rfl hs54 rfl ?_
           refine ql_s rfl rfl hs54 rfl ?_
           refine ql_s rfl rfl hs54 rfl ?_
           refine ql_s rfl rfl hs54 rfl ?_
           refine ql_s rfl rfl hs54 rfl ?_
           refine ql_s rfl rfl hs54 rfl ?_
           refine ql_s rfl rfl hs54 rfl ?_
           refine ql_s rfl rfl hs54 rfl ?_
           refine ql_s rfl rfl hs54 rfl ?_
           refine ql_r (r_pickF rfl hs54 rfl) rfl ?_
           refine ql_nil (to_k0 (fun _ _ h => h) (hK27 _ _ _ _ _ ?_))
           clear hK27
           refine wp_condF rfl ?_
           refine wp_skip' (to_k0 (fun _ _ h => h) (hK26 _ _ _ _ _ ?_))
           clear hK26
           refine wp_reg ?_
           refine ol_r (r_move rfl) rfl ?_
           refine ol_r (r_add rfl rfl (by omega)) rfl ?_
           refine ol_r (r_assign rfl) rfl ?_
           refine ol_nil (to_k0 (fun _ _ h => h) (hK23 (k + 1) _ _ ?_ ?_ (sub_cons rfl sub_nil) (sub_cons rfl (sub_cons rfl (sub_cons rfl (sub_cons rfl (sub_cons rfl (sub_cons rfl (sub_cons rfl sub_nil))))))) (by exact (subH_row rfl (by first | (dsimp only; first | (rw [Int.toNat_natCast, h72]; exact congrArg encI.enc (mid_yes hmn hmi hk1 (by omega) (by omega) (by rw [agS_eq hx58 hx63]; exact decide_eq_true hc67)).symm) | exact congrArg encI.enc (mid_no hmn hmi hk1 (by omega) (fun h => by have := h.1; omega)).symm | exact congrArg encI.enc (mid_no hmn hmi hk1 (by omega) (fun h => hc67 (of_decide_eq_true ((agS_eq hx58 hx63).symm.trans h.2)))).symm; done) | (first | (rw [Int.toNat_natCast, h72]; exact congrArg encI.enc (mid_yes hmn hmi hk1 (by omega) (by omega) (by rw [agS_eq hx58 hx63]; exact decide_eq_true hc67)).symm) | exact congrArg encI.enc (mid_no hmn hmi hk1 (by omega) (fun h => by have := h.1; omega)).symm | exact congrArg encI.enc (mid_no hmn hmi hk1 (by omega) (fun h => hc67 (of_decide_eq_true ((agS_eq hx58 hx63).symm.trans h.2)))).symm; done) | (dsimp only; done)) subH_nil)) (subH_same rfl (subH_same rfl (subH_same rfl (subH_same rfl subH_nil))))))
           ·try dsimp only
            omega
           ·try dsimp only
            omega
         ·refine wp_exit' (to_k0 (fun _ _ h => h) (hK21 _ _ _ _ _ ?_))
          clear hK21
          refine wp_reg ?_
          refine ol_r (r_ld (id := 8) rfl rfl rfl sc34) rfl ?_
          refine ol_r (r_move rfl) rfl ?_
          refine ol_ixo (id := 31) encI _ rfl rfl rfl rfl sl34 (by omega) rfl fun x77 hx77 => ?_
          try simp only [Int.toNat_natCast] at hx77
          try simp only [Int.toNat_natCast] at hx77
          refine ol_r (r_ldw rfl (fun w1 hb1 hs1 hB1 => show Loads _ _ _ _ (.int .i64 x77) from ld_own (id := 31) hs1 rfl rfl ty3 hx77)) rfl ?_
          have hkn : k = A.ss.length := by omega
          have h77 := (tab_get hx77).2
          rw [mid_eq hmi] at h77
          have h77b := best_bd (ag := agS A.ss fast) hmn hmi hkn
          refine ol_r (r_add rfl rfl (by omega)) rfl ?_
          refine ol_ixo (id := 31) encI _ rfl rfl rfl rfl sl34 (by omega) rfl fun x80 hx80 => ?_
          try simp only [Int.toNat_natCast] at hx80
          try simp only [Int.toNat_natCast] at hx80
          refine ol_storeRow (id := 31) _ _ _ rfl rfl rfl rfl sz3 (by omega) ?_
          refine ol_nil (to_k0 (fun _ _ h => h) (hK20 _ _ _ _ _ ?_))
          clear hK20
          refine wp_reg ?_
          refine ol_r (r_move rfl) rfl ?_
          refine ol_r (r_sub rfl rfl (by omega)) rfl ?_
          refine ol_r (r_assign rfl) rfl ?_
          refine ol_nil (to_k0 (fun _ _ h => h) (hK17 ((_, m + 1)) _ _ ?_ ?_ (sub_cons rfl sub_nil) (sub_cons rfl (sub_cons rfl (sub_cons rfl (sub_cons rfl (sub_cons rfl (sub_cons rfl sub_nil)))))) (by exact (subH_row rfl (by first | (dsimp only; rw [Int.toNat_natCast, h77]; exact congrArg encI.enc (mid_done hmn hmi hkn).symm; done) | (rw [Int.toNat_natCast, h77]; exact congrArg encI.enc (mid_done hmn hmi hkn).symm; done) | (dsimp only; done)) subH_nil)) (subH_same rfl (subH_same rfl (subH_same rfl (subH_same rfl subH_nil))))))
          ·try dsimp only
           exact ⟨by omega, by omega⟩
          ·try dsimp only
           omega
       ·refine wp_exit' (to_k0 (fun _ _ h => h) (hK15 _ _ _ _ _ ?_))
        clear hK15
        refine wp_seq' fun K28 hK28 => ?_
        refine wp_regq (by kernel_rfl) (by kernel_rfl) ?_
        refine ql_r (r_ld (id := 8) rfl rfl rfl sc34) rfl ?_
        refine ql_r (r_ld (id := 8) rfl rfl rfl sc34) rfl ?_
        refine ql_call rfl rfl cb55 rfl (fun w1 hb1 hs1 hB1 => slices_MaxI _ _ _ (tab A.ss.length (keepL (agS A.ss fast) A.ss.length m)) _ (Sat.rd hs1 (id := 31) rfl rfl) (by omega)) ?_
        refine ql_call rfl rfl cb54 rfl (fun w1 hb1 hs1 hB1 => slices_IndexI _ _ _ (tab A.ss.length (keepL (agS A.ss fast) A.ss.length m)) _ _ (Sat.rd hs1 (id := 31) rfl rfl)) ?_
        refine ql_r (r_assign rfl) rfl ?_
        refine ql_nil (to_k0 (fun _ _ h => h) (hK28 _ _ _ _ _ ?_))
        clear hK28
        refine wp_seq' fun K29 hK29 => ?_
        refine wp_reg ?_
        have hmn : m = A.ss.length := by omega
        subst hmn
        have hF : firstL (agS A.ss fast) A.ss.length A.ss.length < A.ss.length := by have := (firstL_spec (ag := agS A.ss fast) (n := A.ss.length) A.ss.length (Nat.le_refl _)).1; omega
        simp only [first_is (ag := agS A.ss fast) (n := A.ss.length) (by omega)]
        refine ol_r (r_move rfl) rfl ?_
        refine ol_r (r_ld (id := 7) rfl rfl rfl sc3) rfl ?_
        refine ol_r (r_sub rfl rfl (by omega)) rfl ?_
        refine ol_r (r_func rfl) rfl ?_
        refine ol_call rfl rfl cb56 rfl (fun w1 hb1 hs1 hB1 => Calls.mono ((have hs5 : Sat w.heap.size w1 [(7, .blk b7 [(0, .int .i64 A.sn)] 3), (8, .blk b8 [(0, .slice a31 A.sn A.sn)] 34), (2, .blk b2 (pairs 0 [.string A.name, .int .i64 A.sport, .int .i64 A.start, .slice A.sa A.sn A.sc, .slice A.la A.ln A.lc, .slice A.ta A.tn A.tc]) 26), (3, .blk b3 [(0, .int .i64 fast)] 3), (31, .row a31 A.sn A.sn (encI.enc (tab A.ss.length (longI A.ss fast))) 3 1)] := hs1.sub (subH_blk rfl (sub_cons rfl sub_nil) (subH_blk rfl (sub_cons rfl sub_nil) (subH_same rfl (subH_blk rfl (sub_cons rfl sub_nil) (subH_same rfl subH_nil))))); chain_keep A fast b7 b8 b2 b3 a31 A.sn (firstL (agS A.ss fast) A.ss.length A.ss.length) _ ⟨(hs5.blk (id := 7) rfl), (hs5.blk (id := 8) rfl), (hs5.blk (id := 2) rfl), (hs5.blk (id := 3) rfl), Sat.rd hs5 (id := 31) rfl rfl, hA.at hb1 hB1, hok, hin⟩ (by omega))) ?_)
        rintro e w2 ⟨a89, n89, c89, rfl, hf89⟩
        refine After.fresh (id := 89) rfl hb1 hs1 hB1 hf89 ?_
        have hl89 := hf89.len; clear hf89 hB1 hs1 hb1 w2 w1
        refine ol_r (r_assign rfl) rfl ?_
        refine ol_r (r_assign rfl) rfl ?_
        refine ol_nil (to_k0 (fun _ _ h => h) (hK29 _ _ _ _ _ ?_))
        clear hK29
        refine hQ.ret (rvs2 (rv_t rfl) (rv_t rfl)) (fun _ _ h => h) fun w hb hs hB hkd => ?_
        have h := keepR_0 (a := A.d) (f := fast) h0 hin (by show ¬2000 < A.ss.length; omega)
        rw [h]
        exact ⟨_, _, _, rfl, hb, hs.ok 89 _ rfl⟩
theorem ref3_Keep (A : ActV) (fast : Int) (w : World) (hA : A.Ok w.heap.size w) :
    Calls Try.prog 27 #[.agg #[.string A.name, .int .i64 A.sport, .int .i64 A.start, .slice A.sa A.sn A.sc, .slice A.la A.ln A.lc, .slice A.ta A.tn A.tc], .int .i64 fast] w fun e w' => ∃ b m k, e = .returned (.tuple #[.slice b m k, .int .i64 (keepR A.d fast).2]) ∧ Fresh encI 3 w w' b m k (keepR A.d fast).1 := by
  have hsn := hA.s.len
  have hsf := hA.s.fit
  have hN1 : ((A.sn : Int) + 1).toNat = A.sn + 1 := by omega
  refine enterQ (N := 115) (C := fun _ => True) (H := []) (B := w.heap.size) (args := [_, _]) Try.func27 rfl rfl rfl (Nat.le_refl _) (Sat.nil _ _) fun Q hQ => ?_
  refine wp_seq' fun K1 hK1 => ?_
  refine wp_reg ?_
  refine ol_box 2 rfl rfl rfl fun b2 => ?_
  refine ol_r (r_assign rfl) rfl ?_
  refine ol_r (r_assign rfl) rfl ?_
  refine ol_nil (to_k0 (fun _ _ h => h) (hK1 _ _ _ _ _ ?_))
  clear hK1
  refine wp_seq' fun K2 hK2 => ?_
  refine wp_seq' fun K3 hK3 => ?_
  refine wp_reg ?_
  refine ol_r (r_lda (id := 2) (n := 6) rfl rfl rfl ag26) rfl ?_
  refine ol_call rfl rfl cb40 rfl (fun w1 hb1 hs1 hB1 => Calls.mono (ref2_Check A _ (hA.at hb1 hB1)) ?_)
  rintro e w2 ⟨rfl, hb2⟩
  refine After.below rfl hb1 hs1 hB1 hb2 ?_
  clear hb2 hB1 hs1 hb1 w2 w1
  refine ol_r (r_assign rfl) rfl ?_
  refine ol_nil (to_k0 (fun _ _ h => h) (hK3 _ _ _ _ _ ?_))
  clear hK3
  refine wp_seq' fun K4 hK4 => ?_
  refine wp_reg ?_
  refine ol_r (r_move rfl) rfl ?_
  refine ol_r (r_neq rfl rfl) rfl ?_
  refine ol_nil (to_k0 (fun _ _ h => h) (hK4 _ _ _ _ _ ?_))
  clear hK4
  first | refine wp_condD rfl (fun hc18 => ?_) (fun hc18 => ?_) | refine wp_condN rfl (fun hc18 => ?_) (fun hc18 => ?_) | refine wp_condNB rfl (fun hc18 => ?_) (fun hc18 => ?_) | refine wp_cond' rfl (fun hc18 => ?_) (fun hc18 => ?_)
  ·refine wp_seq' fun K5 hK5 => ?_
   refine wp_reg ?_
   refine ol_r (r_move rfl) rfl ?_
   refine ol_r (r_assign rfl) rfl ?_
   refine ol_r (r_assign rfl) rfl ?_
   refine ol_nil (to_k0 (fun _ _ h => h) (hK5 _ _ _ _ _ ?_))
   clear hK5
   refine hQ.ret (rvs2 (rv_t rfl) (rv_t rfl)) (fun _ _ h => h) fun w hb hs hB hkd => ?_
   have h := keepR_e (f := fast) hc18
   exact ⟨none, 0, 0, by rw [h], by rw [h]; exact Fresh.nil hb⟩
  ·refine wp_skip' (to_k0 (fun _ _ h => h) (hK2 _ _ _ _ _ ?_))
   clear hK2
   refine wp_seq' fun K6 hK6 => ?_
   refine wp_seq' fun K7 hK7 => ?_
   refine wp_reg ?_
   refine ol_r (r_move rfl) rfl ?_
   refine ol_call rfl rfl cb41 rfl (fun w1 hb1 hs1 hB1 => Calls.mono (ref3_outside _ _ _ _) ?_)
   rintro e w2 ⟨rfl, hb2⟩
   refine After.below rfl hb1 hs1 hB1 hb2 ?_
   clear hb2 hB1 hs1 hb1 w2 w1
   refine ol_nil (to_k0 (fun _ _ h => h) (hK7 _ _ _ _ _ ?_))
   clear hK7
   first | refine wp_condD rfl (fun hc21 => ?_) (fun hc21 => ?_) | refine wp_condN rfl (fun hc21 => ?_) (fun hc21 => ?_) | refine wp_condNB rfl (fun hc21 => ?_) (fun hc21 => ?_) | refine wp_cond' rfl (fun hc21 => ?_) (fun hc21 => ?_)
   ·refine wp_seq' fun K8 hK8 => ?_
    refine wp_reg ?_
    refine ol_r (r_assign rfl) rfl ?_
    refine ol_r (r_assign rfl) rfl ?_
    refine ol_nil (to_k0 (fun _ _ h => h) (hK8 _ _ _ _ _ ?_))
    clear hK8
    refine hQ.ret (rvs2 (rv_t rfl) (rv_t rfl)) (fun _ _ h => h) fun w hb hs hB hkd => ?_
    have h := keepR_9 (f := fast) (Decidable.not_not.1 hc18) (fun h => by have := inB_iff.2 h; rw [this] at hc21; cases hc21)
    exact ⟨none, 0, 0, by rw [h], by rw [h]; exact Fresh.nil hb⟩
   ·refine wp_skip' (to_k0 (fun _ _ h => h) (hK6 _ _ _ _ _ ?_))
    clear hK6
    refine wp_seq' fun K9 hK9 => ?_
    refine wp_reg ?_
    refine ol_r (r_fa (o' := 3) rfl fl26_3 rfl) rfl ?_
    refine ol_r (r_ld (id := 2) rfl rfl rfl sc22) rfl ?_
    refine ol_r (r_len rfl sl22) rfl ?_
    refine ol_r (r_assign rfl) rfl ?_
    refine ol_nil (to_k0 (fun _ _ h => h) (hK9 _ _ _ _ _ ?_))
    clear hK9
    refine wp_seq' fun K10 hK10 => ?_
    refine wp_seq' fun K11 hK11 => ?_
    refine wp_reg ?_
    refine ol_r (r_move rfl) rfl ?_
    refine ol_r (r_gtr rfl rfl) rfl ?_
    refine ol_nil (to_k0 (fun _ _ h => h) (hK11 _ _ _ _ _ ?_))
    clear hK11
    first | refine wp_condD rfl (fun hc26 => ?_) (fun hc26 => ?_) | refine wp_condN rfl (fun hc26 => ?_) (fun hc26 => ?_) | refine wp_condNB rfl (fun hc26 => ?_) (fun hc26 => ?_) | refine wp_cond' rfl (fun hc26 => ?_) (fun hc26 => ?_)
    ·refine wp_seq' fun K12 hK12 => ?_
     refine wp_reg ?_
     refine ol_r (r_assign rfl) rfl ?_
     refine ol_r (r_assign rfl) rfl ?_
     refine ol_nil (to_k0 (fun _ _ h => h) (hK12 _ _ _ _ _ ?_))
     clear hK12
     refine hQ.ret (rvs2 (rv_t rfl) (rv_t rfl)) (fun _ _ h => h) fun w hb hs hB hkd => ?_
     have h := keepR_3 (a := A.d) (f := fast) (Decidable.not_not.1 hc18) (inB_iff.1 hc21) (by show 2000 < A.ss.length; omega)
     exact ⟨none, 0, 0, by rw [h], by rw [h]; exact Fresh.nil hb⟩
    ·refine wp_skip' (to_k0 (fun _ _ h => h) (hK10 _ _ _ _ _ ?_))
     clear hK10
     refine wp_seq' fun K13 hK13 => ?_
     refine wp_rega [(999, [(2, _)])] (by kernel_rfl) ⟨.inr (subH_same rfl subH_nil), trivial⟩ ?_
     have h0 : chkA A.d = 0 := Decidable.not_not.1 hc18
     have hok : SmpOk A.start A.ss := (goodA h0).smp
     have hl20 := hok.len
     have hin : 1 ≤ fast ∧ fast ≤ 100000 := inB_iff.1 (by simpa using hc21)
     refine aq_r 0 999 rfl (by kernel_rfl) (by kernel_rfl) (by kernel_rfl) (.head _) (by kernel_rfl) (by kernel_rfl) rfl (r_move rfl) ?_
     refine aq_r 1 999 rfl (by kernel_rfl) (by kernel_rfl) (by kernel_rfl) (.head _) (by kernel_rfl) (by kernel_rfl) rfl (r_add rfl rfl (by omega)) ?_
     refine aq_r 3 999 rfl (by kernel_rfl) (by kernel_rfl) (by kernel_rfl) (.head _) (by kernel_rfl) (by kernel_rfl) rfl (r_move rfl) ?_
     refine aq_r 4 999 rfl (by kernel_rfl) (by kernel_rfl) (by kernel_rfl) (.head _) (by kernel_rfl) (by kernel_rfl) rfl (r_add rfl rfl (by omega)) ?_
     refine aq_two (i := 2) (j := 5) (by kernel_rfl) rfl rfl (fun K14 hK14 => ?_) (fun K14 hK14 => ?_)
     ·refine ol_make encI (0) 29 rfl rfl rw34 z3 rfl rfl (by omega) rfl fun a29 => ?_
      refine ol_nil (to_k0 (fun _ _ h => h) (hK14 _ _ ⟨.inr (by repeat' first | exact subH_nil | refine subH_same rfl ?_ | (refine subH_blk rfl (by repeat' first | exact sub_nil | refine sub_cons rfl ?_) ?_)), trivial⟩ ?_))
      clear hK14
      refine aq_r 6 999 rfl (by kernel_rfl) (by kernel_rfl) (by kernel_rfl) (.head _) (by kernel_rfl) (by kernel_rfl) rfl (r_assign rfl) ?_
      refine aq_one (i := 5) (by kernel_rfl) rfl fun K15 hK15 => ?_
      refine ol_make encI (0) 32 rfl rfl rw34 z3 rfl rfl (by omega) rfl fun a32 => ?_
      refine ol_nil (to_k0 (fun _ _ h => h) (hK15 _ _ ⟨.inr (by repeat' first | exact subH_nil | refine subH_same rfl ?_ | (refine subH_blk rfl (by repeat' first | exact sub_nil | refine sub_cons rfl ?_) ?_)), trivial⟩ ?_))
      clear hK15
      refine aq_r 7 999 rfl (by kernel_rfl) (by kernel_rfl) (by kernel_rfl) (.head _) (by kernel_rfl) (by kernel_rfl) rfl (r_assign rfl) ?_
      refine aq_done (by kernel_rfl) ?_
      refine (to_k0 (fun _ _ h => h) (hK13 _ _ _ _ _ ?_))
      clear hK13
      refine wp_seq' fun K16 hK16 => ?_
      refine wp_reg ?_
      refine ol_r (r_move rfl) rfl ?_
      refine ol_r (r_assign rfl) rfl ?_
      refine ol_nil (to_k0 (fun _ _ h => h) (hK16 _ _ _ _ _ ?_))
      clear hK16
      refine wp_seq' fun K17 hK17 => ?_
      refine wp_seq' fun K18 hK18 => ?_
      refine wp_reg ?_
      refine ol_r (r_move rfl) rfl ?_
      refine ol_r (r_sub rfl rfl (by omega)) rfl ?_
      refine ol_r (r_assign rfl) rfl ?_
      refine ol_nil (to_k0 (fun _ _ h => h) (hK18 _ _ _ _ _ ?_))
      clear hK18
      refine wp_block' ?_
      apply wp_loopM (σ := Int × Nat × Nat) (fun s => s.1 = A.ss.length - 1 - s.2.1 ∧ s.2.1 ≤ A.ss.length ∧ s.2.2 = firstL (agS A.ss fast) A.ss.length s.2.1) (fun s => [(11, .int .i64 s.1), (10, .int .i64 s.2.2)]) [(1, _), (2, _), (4, _), (5, _), (7, _), (8, _), (9, _)] (fun s => [(29, .row a29 (A.sn + 1) (A.sn + 1) (encI.enc (tab (A.ss.length + 1) (keepL (agS A.ss fast) A.ss.length s.2.1))) 3 1), (32, .row a32 (A.sn + 1) (A.sn + 1) (encI.enc (tab (A.ss.length + 1) fun j => (nextL (agS A.ss fast) A.ss.length s.2.1 j : Int))) 3 1)]) [(2, _)] (fun s => A.ss.length - s.2.1) (((A.sn : Int) - 1, 0, A.sn))
      ·try dsimp only
       exact ⟨by omega, Nat.zero_le _, hsn.symm⟩
      ·exact (sub_cons rfl (sub_cons rfl sub_nil))
      ·exact (sub_cons rfl (sub_cons rfl (sub_cons rfl (sub_cons rfl (sub_cons rfl (sub_cons rfl (sub_cons rfl sub_nil)))))))
      ·exact (subH_row rfl (by first | (dsimp only; first | rfl | (rw [hN1, ← hsn, tab_zero]; rfl); done) | (first | rfl | (rw [hN1, ← hsn, tab_zero]; rfl); done) | (dsimp only; done)) (subH_row rfl (by first | (dsimp only; first | rfl | (rw [hN1, ← hsn, tab_zero]; rfl); done) | (first | rfl | (rw [hN1, ← hsn, tab_zero]; rfl); done) | (dsimp only; done)) subH_nil))
      ·exact (subH_same rfl subH_nil)
      ·rintro ⟨i, m, fi⟩ ⟨hi, hm, hfi⟩
       dsimp only at hi hm hfi ⊢
       intro K19 hK19
       refine wp_seq' fun K20 hK20 => ?_
       refine wp_seq' fun K21 hK21 => ?_
       refine wp_reg ?_
       refine ol_r (r_move rfl) rfl ?_
       refine ol_r (r_geq rfl rfl) rfl ?_
       refine ol_nil (to_k0 (fun _ _ h => h) (hK21 _ _ _ _ _ ?_))
       clear hK21
       first | refine wp_condD rfl (fun hc37 => ?_) (fun hc37 => ?_) | refine wp_condN rfl (fun hc37 => ?_) (fun hc37 => ?_) | refine wp_condNB rfl (fun hc37 => ?_) (fun hc37 => ?_) | refine wp_cond' rfl (fun hc37 => ?_) (fun hc37 => ?_)
       ·refine wp_skip' (to_k0 (fun _ _ h => h) (hK20 _ _ _ _ _ ?_))
        clear hK20
        refine wp_seq' fun K22 hK22 => ?_
        refine wp_block' ?_
        refine wp_seq' fun K23 hK23 => ?_
        refine wp_reg ?_
        obtain ⟨iN, hiN⟩ := Int.eq_ofNat_of_zero_le (show 0 ≤ i by omega)
        subst hiN
        have hmn : m < A.ss.length := by omega
        have hmi : A.ss.length - 1 - m = iN := by omega
        refine ol_r (r_move rfl) rfl ?_
        refine ol_r (r_move rfl) rfl ?_
        refine ol_r (r_move rfl) rfl ?_
        refine ol_ixo (id := 32) encI _ rfl rfl rfl rfl sl34 (by omega) rfl fun x43 hx43 => ?_
        try simp only [Int.toNat_natCast] at hx43
        try simp only [Int.toNat_natCast] at hx43
        refine ol_storeRow (id := 32) _ _ _ rfl rfl rfl rfl sz3 (by omega) ?_
        refine ol_nil (to_k0 (fun _ _ h => h) (hK23 _ _ _ _ _ ?_))
        clear hK23
        refine wp_seq' fun K24 hK24 => ?_
        refine wp_seq' fun K25 hK25 => ?_
        refine wp_reg ?_
        refine ol_r (r_move rfl) rfl ?_
        refine ol_r (r_sub rfl rfl (by omega)) rfl ?_
        refine ol_r (r_assign rfl) rfl ?_
        refine ol_nil (to_k0 (fun _ _ h => h) (hK25 _ _ _ _ _ ?_))
        clear hK25
        refine wp_block' ?_
        apply wp_loopM (σ := Int × Nat) (fun s => s.1 = A.ss.length - 1 - s.2 ∧ s.2 ≤ m) (fun s => [(12, .int .i64 s.1)]) [(1, _), (2, _), (4, _), (5, _), (7, _), (8, _), (9, _), (10, _), (11, _)] (fun s => [(32, .row a32 (A.sn + 1) (A.sn + 1) (encI.enc (tab (A.ss.length + 1) fun j => (midN (agS A.ss fast) A.ss.length m s.2 j : Int))) 3 1)]) [(2, _), (29, _)] (fun s => m - s.2) (((A.sn : Int) - 1, 0))
        ·try dsimp only
         exact ⟨by omega, Nat.zero_le _⟩
        ·exact (sub_cons rfl sub_nil)
        ·exact (sub_cons rfl (sub_cons rfl (sub_cons rfl (sub_cons rfl (sub_cons rfl (sub_cons rfl (sub_cons rfl (sub_cons rfl (sub_cons rfl sub_nil)))))))))
        ·exact (subH_row rfl (by first | (dsimp only; rw [Int.toNat_natCast, ← hsn]; exact congrArg encI.enc (midn_zero hmn (by omega) hmi).symm; done) | (rw [Int.toNat_natCast, ← hsn]; exact congrArg encI.enc (midn_zero hmn (by omega) hmi).symm; done) | (dsimp only; done)) subH_nil)
        ·exact (subH_same rfl (subH_same rfl subH_nil))
        ·rintro ⟨k, c⟩ ⟨hk, hc⟩
         dsimp only at hk hc ⊢
         intro K26 hK26
         refine wp_seq' fun K27 hK27 => ?_
         refine wp_seq' fun K28 hK28 => ?_
         refine wp_reg ?_
         refine ol_r (r_move rfl) rfl ?_
         refine ol_r (r_move rfl) rfl ?_
         refine ol_r (r_gtr rfl rfl) rfl ?_
         refine ol_nil (to_k0 (fun _ _ h => h) (hK28 _ _ _ _ _ ?_))
         clear hK28
         first | refine wp_condD rfl (fun hc48 => ?_) (fun hc48 => ?_) | refine wp_condN rfl (fun hc48 => ?_) (fun hc48 => ?_) | refine wp_condNB rfl (fun hc48 => ?_) (fun hc48 => ?_) | refine wp_cond' rfl (fun hc48 => ?_) (fun hc48 => ?_)
         ·refine wp_skip' (to_k0 (fun _ _ h => h) (hK27 _ _ _ _ _ ?_))
          clear hK27
          refine wp_seq' fun K29 hK29 => ?_
          refine wp_block' ?_
          refine wp_seq' fun K30 hK30 => ?_
          refine wp_regq (by kernel_rfl) (by kernel_rfl) ?_
          obtain ⟨kN, hkN⟩ := Int.eq_ofNat_of_zero_le (show 0 ≤ k by omega)
          subst hkN
          have hck : A.ss.length - 1 - c = kN := by omega
          have htl := tab_len (A.ss.length + 1) (keepL (agS A.ss fast) A.ss.length m)
          have htl2 := tab_len (A.ss.length + 1) fun j => (midN (agS A.ss fast) A.ss.length m c j : Int)
          refine ql_r (r_fa (o' := 3) rfl fl26_3 rfl) rfl ?_
          refine ql_r (r_ld (id := 2) rfl rfl rfl sc22) rfl ?_
          refine ql_r (r_move rfl) rfl ?_
          refine ql_ixr hA.s rfl rfl sl22 (by omega) rfl fun x54 hx54 => ?_
          try simp only [Int.toNat_natCast] at hx54
          refine ql_r (r_ldw rfl (fun w1 hb1 hs1 hB1 => Rd.loads hA.s ty36 hx54 hb1)) rfl ?_
          refine ql_r (r_fa (o' := 3) rfl fl26_3 rfl) rfl ?_
          refine ql_r (r_ld (id := 2) rfl rfl rfl sc22) rfl ?_
          refine ql_r (r_move rfl) rfl ?_
          refine ql_ixr hA.s rfl rfl sl22 (by omega) rfl fun x59 hx59 => ?_
          try simp only [Int.toNat_natCast] at hx59
          refine ql_r (r_ldw rfl (fun w1 hb1 hs1 hB1 => Rd.loads hA.s ty36 hx59 hb1)) rfl ?_
          refine ql_r (r_move rfl) rfl ?_
          refine ql_call rfl rfl cb58 rfl (fun w1 hb1 hs1 hB1 => ref3_agree fast x54 x59 _ hin (hok.place (List.mem_of_getElem? hx54)) (hok.place (List.mem_of_getElem? hx59)) (hok.at_lt hx54 hx59 (by omega)).1 (hok.at_lt hx54 hx59 (by omega)).2.1 (hok.at_lt hx54 hx59 (by omega)).2.2) ?_
          refine ql_r (r_move rfl) rfl ?_
          refine ql_split (d := 63) rfl (fun hs63 => ?_) (fun hs63 => ?_)
          ·have phs63 := hs63; try simp only [decide_eq_true_eq, decide_eq_false_iff_not, Bool.not_eq_true', Bool.not_eq_false', Bool.not_true, Bool.not_false] at phs63
           refine ql_g rfl rfl hs63 ?_
           refine ql_r (r_move rfl) rfl ?_
           refine ql_g rfl rfl hs63 ?_
           refine ql_r (r_move rfl) rfl ?_
           refine ql_g rfl rfl hs63 ?_
           refine ql_ixo (id := 29) encI _ rfl rfl rfl rfl sl34 (by omega) (by omega) rfl fun x66 hx66 => ?_
           try simp only [Int.toNat_natCast] at hx66
           try simp only [Int.toNat_natCast] at hx66
           refine ql_g rfl rfl hs63 ?_
           refine ql_r (r_ldw rfl (fun w1 hb1 hs1 hB1 => show Loads _ _ _ _ (.int .i64 x66) from ld_own (id := 29) hs1 rfl rfl ty3 hx66)) rfl ?_
           refine ql_g rfl rfl hs63 ?_
           refine ql_r (r_move rfl) rfl ?_
           refine ql_g rfl rfl hs63 ?_
           refine ql_r (r_move rfl) rfl ?_
           refine ql_g rfl rfl hs63 ?_
           refine ql_r (r_move rfl) rfl ?_
           refine ql_g rfl rfl hs63 ?_
           refine ql_ixo (id := 32) encI _ rfl rfl rfl rfl sl34 (by omega) (by omega) rfl fun x71 hx71 => ?_
           try simp only [Int.toNat_natCast] at hx71
           try simp only [Int.toNat_natCast] at hx71
           refine ql_g rfl rfl hs63 ?_
           refine ql_r (r_ldw rfl (fun w1 hb1 hs1 hB1 => show Loads _ _ _ _ (.int .i64 x71) from ld_own (id := 32) hs1 rfl rfl ty3 hx71)) rfl ?_
           refine ql_g rfl rfl hs63 ?_
           have h71 := (tab_get hx71).2
           rw [midn_eq hmi] at h71
           have hdn := (dnK_bd (ag := agS A.ss fast) (n := A.ss.length) (keepL (agS A.ss fast) A.ss.length m) iN (by omega) c (by omega)).1
           subst h71
           refine ql_ixo (id := 29) encI _ rfl rfl rfl rfl sl34 (by omega) (by omega) rfl fun x73 hx73 => ?_
           try simp only [Int.toNat_natCast] at hx73
           try simp only [Int.toNat_natCast] at hx73
           refine ql_g rfl rfl hs63 ?_
           refine ql_r (r_ldw rfl (fun w1 hb1 hs1 hB1 => show Loads _ _ _ _ (.int .i64 x73) from ld_own (id := 29) hs1 rfl rfl ty3 hx73)) rfl ?_
           refine ql_g rfl rfl hs63 ?_
           have h66 := (tab_get hx66).2
           have h73 := (tab_get hx73).2
           refine ql_r (r_geq rfl rfl) rfl ?_
           refine ql_r (r_pickT rfl hs63 rfl) rfl ?_
           refine ql_nil (to_k0 (fun _ _ h => h) (hK30 _ _ _ _ _ ?_))
           clear hK30
           first | refine wp_condD rfl (fun hc76 => ?_) (fun hc76 => ?_) | refine wp_condN rfl (fun hc76 => ?_) (fun hc76 => ?_) | refine wp_condNB rfl (fun hc76 => ?_) (fun hc76 => ?_) | refine wp_cond' rfl (fun hc76 => ?_) (fun hc76 => ?_)
           ·refine wp_reg ?_
            refine ol_r (r_move rfl) rfl ?_
            refine ol_r (r_move rfl) rfl ?_
            refine ol_r (r_move rfl) rfl ?_
            refine ol_ixo (id := 32) encI _ rfl rfl rfl rfl sl34 (by omega) rfl fun x80 hx80 => ?_
            try simp only [Int.toNat_natCast] at hx80
            try simp only [Int.toNat_natCast] at hx80
            refine ol_storeRow (id := 32) _ _ _ rfl rfl rfl rfl sz3 (by omega) ?_
            refine ol_nil (to_k0 (fun _ _ h => h) (hK29 _ _ _ _ _ ?_))
            clear hK29
            refine wp_reg ?_
            refine ol_r (r_move rfl) rfl ?_
            refine ol_r (r_sub rfl rfl (by omega)) rfl ?_
            refine ol_r (r_assign rfl) rfl ?_
            refine ol_nil (to_k0 (fun _ _ h => h) (hK26 ((_, c + 1)) _ _ ?_ ?_ (sub_cons rfl sub_nil) (sub_cons rfl (sub_cons rfl (sub_cons rfl (sub_cons rfl (sub_cons rfl (sub_cons rfl (sub_cons rfl (sub_cons rfl (sub_cons rfl sub_nil))))))))) (by exact (subH_row rfl (by first | (dsimp only; first | (rw [Int.toNat_natCast]; exact congrArg encI.enc (midn_yes hmn (by omega) hmi hck ⟨(agS_eq hx54 hx59).trans hs63, by omega⟩).symm) | exact congrArg encI.enc (midn_no hmi hck (fun h => by have := h.2; omega)).symm | exact congrArg encI.enc (midn_no hmi hck (fun h => absurd ((agS_eq hx54 hx59).symm.trans h.1) (by rw [show agB fast x54 x59 = false from hs63]; decide))).symm; done) | (first | (rw [Int.toNat_natCast]; exact congrArg encI.enc (midn_yes hmn (by omega) hmi hck ⟨(agS_eq hx54 hx59).trans hs63, by omega⟩).symm) | exact congrArg encI.enc (midn_no hmi hck (fun h => by have := h.2; omega)).symm | exact congrArg encI.enc (midn_no hmi hck (fun h => absurd ((agS_eq hx54 hx59).symm.trans h.1) (by rw [show agB fast x54 x59 = false from hs63]; decide))).symm; done) | (dsimp only; done)) subH_nil)) (subH_same rfl (subH_same rfl subH_nil))))
            ·try dsimp only
             exact ⟨by omega, by omega⟩
            ·try dsimp only
             omega
           ·refine wp_skip' (to_k0 (fun _ _ h => h) (hK29 _ _ _ _ _ ?_))
            clear hK29
            refine wp_reg ?_
            refine ol_r (r_move rfl) rfl ?_
            refine ol_r (r_sub rfl rfl (by omega)) rfl ?_
            refine ol_r (r_assign rfl) rfl ?_
            refine ol_nil (to_k0 (fun _ _ h => h) (hK26 ((_, c + 1)) _ _ ?_ ?_ (sub_cons rfl sub_nil) (sub_cons rfl (sub_cons rfl (sub_cons rfl (sub_cons rfl (sub_cons rfl (sub_cons rfl (sub_cons rfl (sub_cons rfl (sub_cons rfl sub_nil))))))))) (by exact (subH_row rfl (by first | (dsimp only; first | (rw [Int.toNat_natCast]; exact congrArg encI.enc (midn_yes hmn (by omega) hmi hck ⟨(agS_eq hx54 hx59).trans hs63, by omega⟩).symm) | exact congrArg encI.enc (midn_no hmi hck (fun h => by have := h.2; omega)).symm | exact congrArg encI.enc (midn_no hmi hck (fun h => absurd ((agS_eq hx54 hx59).symm.trans h.1) (by rw [show agB fast x54 x59 = false from hs63]; decide))).symm; done) | (first | (rw [Int.toNat_natCast]; exact congrArg encI.enc (midn_yes hmn (by omega) hmi hck ⟨(agS_eq hx54 hx59).trans hs63, by omega⟩).symm) | exact congrArg encI.enc (midn_no hmi hck (fun h => by have := h.2; omega)).symm | exact congrArg encI.enc (midn_no hmi hck (fun h => absurd ((agS_eq hx54 hx59).symm.trans h.1) (by rw [show agB fast x54 x59 = false from hs63]; decide))).symm; done) | (dsimp only; done)) subH_nil)) (subH_same rfl (subH_same rfl subH_nil))))
            ·try dsimp only
             exact ⟨by omega, by omega⟩
            ·try dsimp only
             omega
          ·have phs63 := hs63; try simp only [decide_eq_true_eq, decide_eq_false_iff_not, Bool.not_eq_true', Bool.not_eq_false', Bool.not_true, Bool.not_false] at phs63
           refine ql_s rfl rfl hs63 rfl ?_
           refine ql_s rfl rfl hs63 rfl ?_
           refine ql_s rfl rfl hs63 rfl ?_
           refine ql_s rfl rfl hs63 rfl ?_
           refine ql_s rfl rfl hs63 rfl ?_
           refine ql_s rfl rfl hs63 rfl ?_
           refine ql_s rfl rfl hs63 rfl ?_
           refine ql_s rfl rfl hs63 rfl ?_
           refine ql_s rfl rfl hs63 rfl ?_
           refine ql_s rfl rfl hs63 rfl ?_
           refine ql_s rfl rfl hs63 rfl ?_
           refine ql_s rfl rfl hs63 rfl ?_
           refine ql_r (r_pickF rfl hs63 rfl) rfl ?_
           refine ql_nil (to_k0 (fun _ _ h => h) (hK30 _ _ _ _ _ ?_))
           clear hK30
           refine wp_condF rfl ?_
           refine wp_skip' (to_k0 (fun _ _ h => h) (hK29 _ _ _ _ _ ?_))
           clear hK29
           refine wp_reg ?_
           refine ol_r (r_move rfl) rfl ?_
           refine ol_r (r_sub rfl rfl (by omega)) rfl ?_
           refine ol_r (r_assign rfl) rfl ?_
           refine ol_nil (to_k0 (fun _ _ h => h) (hK26 ((_, c + 1)) _ _ ?_ ?_ (sub_cons rfl sub_nil) (sub_cons rfl (sub_cons rfl (sub_cons rfl (sub_cons rfl (sub_cons rfl (sub_cons rfl (sub_cons rfl (sub_cons rfl (sub_cons rfl sub_nil))))))))) (by exact (subH_row rfl (by first | (dsimp only; first | (rw [Int.toNat_natCast]; exact congrArg encI.enc (midn_yes hmn (by omega) hmi hck ⟨(agS_eq hx54 hx59).trans hs63, by omega⟩).symm) | exact congrArg encI.enc (midn_no hmi hck (fun h => by have := h.2; omega)).symm | exact congrArg encI.enc (midn_no hmi hck (fun h => absurd ((agS_eq hx54 hx59).symm.trans h.1) (by rw [show agB fast x54 x59 = false from hs63]; decide))).symm; done) | (first | (rw [Int.toNat_natCast]; exact congrArg encI.enc (midn_yes hmn (by omega) hmi hck ⟨(agS_eq hx54 hx59).trans hs63, by omega⟩).symm) | exact congrArg encI.enc (midn_no hmi hck (fun h => by have := h.2; omega)).symm | exact congrArg encI.enc (midn_no hmi hck (fun h => absurd ((agS_eq hx54 hx59).symm.trans h.1) (by rw [show agB fast x54 x59 = false from hs63]; decide))).symm; done) | (dsimp only; done)) subH_nil)) (subH_same rfl (subH_same rfl subH_nil))))
           ·try dsimp only
            exact ⟨by omega, by omega⟩
           ·try dsimp only
            omega
         ·refine wp_exit' (to_k0 (fun _ _ h => h) (hK24 _ _ _ _ _ ?_))
          clear hK24
          refine wp_seq' fun K31 hK31 => ?_
          refine wp_reg ?_
          refine ol_r (r_move rfl) rfl ?_
          refine ol_r (r_move rfl) rfl ?_
          refine ol_r (r_move rfl) rfl ?_
          refine ol_r (r_move rfl) rfl ?_
          refine ol_r (r_move rfl) rfl ?_
          refine ol_ixo (id := 32) encI _ rfl rfl rfl rfl sl34 (by omega) rfl fun x86 hx86 => ?_
          try simp only [Int.toNat_natCast] at hx86
          try simp only [Int.toNat_natCast] at hx86
          refine ol_r (r_ldw rfl (fun w1 hb1 hs1 hB1 => show Loads _ _ _ _ (.int .i64 x86) from ld_own (id := 32) hs1 rfl rfl ty3 hx86)) rfl ?_
          have hcm : c = m := by omega
          subst c
          have h86 := (tab_get hx86).2
          rw [midn_eq hmi] at h86
          have hdn := (dnK_bd (ag := agS A.ss fast) (n := A.ss.length) (keepL (agS A.ss fast) A.ss.length m) iN (by omega) m (by omega)).1
          subst h86
          refine ol_ixo (id := 29) encI _ rfl rfl rfl rfl sl34 (by omega) rfl fun x88 hx88 => ?_
          try simp only [Int.toNat_natCast] at hx88
          try simp only [Int.toNat_natCast] at hx88
          refine ol_r (r_ldw rfl (fun w1 hb1 hs1 hB1 => show Loads _ _ _ _ (.int .i64 x88) from ld_own (id := 29) hs1 rfl rfl ty3 hx88)) rfl ?_
          have h88 := (tab_get hx88).2
          have hp88 := keepL_pos (ag := agS A.ss fast) (n := A.ss.length) m (dnK (agS A.ss fast) A.ss.length (keepL (agS A.ss fast) A.ss.length m) iN m) (by omega)
          refine ol_r (r_add rfl rfl (by omega)) rfl ?_
          refine ol_ixo (id := 29) encI _ rfl rfl rfl rfl sl34 (by omega) rfl fun x91 hx91 => ?_
          try simp only [Int.toNat_natCast] at hx91
          try simp only [Int.toNat_natCast] at hx91
          refine ol_storeRow (id := 29) _ _ _ rfl rfl rfl rfl sz3 (by omega) ?_
          refine ol_nil (to_k0 (fun _ _ h => h) (hK31 _ _ _ _ _ ?_))
          clear hK31
          refine wp_seq' fun K32 hK32 => ?_
          refine wp_regq (by kernel_rfl) (by kernel_rfl) ?_
          simp only [Int.toNat_natCast]
          rw [h88, keepL_set hmn (by omega) hmi]
          have hfs := (firstL_spec (ag := agS A.ss fast) (n := A.ss.length) m (by omega)).1
          have htl := tab_len (A.ss.length + 1) (keepL (agS A.ss fast) A.ss.length (m + 1))
          refine ql_r (r_move rfl) rfl ?_
          refine ql_r (r_move rfl) rfl ?_
          refine ql_ixo (id := 29) encI _ rfl rfl rfl rfl sl34 (by omega) (by omega) rfl fun x94 hx94 => ?_
          try simp only [Int.toNat_natCast] at hx94
          try simp only [Int.toNat_natCast] at hx94
          refine ql_r (r_ldw rfl (fun w1 hb1 hs1 hB1 => show Loads _ _ _ _ (.int .i64 x94) from ld_own (id := 29) hs1 rfl rfl ty3 hx94)) rfl ?_
          refine ql_r (r_move rfl) rfl ?_
          refine ql_r (r_move rfl) rfl ?_
          refine ql_ixo (id := 29) encI _ rfl rfl rfl rfl sl34 (by omega) (by omega) rfl fun x98 hx98 => ?_
          try simp only [Int.toNat_natCast] at hx98
          try simp only [Int.toNat_natCast] at hx98
          refine ql_r (r_ldw rfl (fun w1 hb1 hs1 hB1 => show Loads _ _ _ _ (.int .i64 x98) from ld_own (id := 29) hs1 rfl rfl ty3 hx98)) rfl ?_
          have h94 := (tab_get hx94).2
          have h98 := (tab_get hx98).2
          refine ql_r (r_geq rfl rfl) rfl ?_
          refine ql_nil (to_k0 (fun _ _ h => h) (hK32 _ _ _ _ _ ?_))
          clear hK32
          first | refine wp_condD rfl (fun hc100 => ?_) (fun hc100 => ?_) | refine wp_condN rfl (fun hc100 => ?_) (fun hc100 => ?_) | refine wp_condNB rfl (fun hc100 => ?_) (fun hc100 => ?_) | refine wp_cond' rfl (fun hc100 => ?_) (fun hc100 => ?_)
          ·refine wp_reg ?_
           refine ol_r (r_move rfl) rfl ?_
           refine ol_r (r_assign rfl) rfl ?_
           refine ol_nil (to_k0 (fun _ _ h => h) (hK22 _ _ _ _ _ ?_))
           clear hK22
           refine wp_reg ?_
           refine ol_r (r_move rfl) rfl ?_
           refine ol_r (r_sub rfl rfl (by omega)) rfl ?_
           refine ol_r (r_assign rfl) rfl ?_
           refine ol_nil (to_k0 (fun _ _ h => h) (hK19 ((_, m + 1, _)) _ _ ?_ ?_ (sub_cons rfl (sub_cons rfl sub_nil)) (sub_cons rfl (sub_cons rfl (sub_cons rfl (sub_cons rfl (sub_cons rfl (sub_cons rfl (sub_cons rfl sub_nil))))))) (by exact (subH_row rfl (by first | (dsimp only; first | rfl | exact congrArg encI.enc midn_done.symm; done) | (first | rfl | exact congrArg encI.enc midn_done.symm; done) | (dsimp only; done)) (subH_row rfl (by first | (dsimp only; first | rfl | exact congrArg encI.enc midn_done.symm; done) | (first | rfl | exact congrArg encI.enc midn_done.symm; done) | (dsimp only; done)) subH_nil))) (subH_same rfl subH_nil)))
           ·try dsimp only
            first
              | exact ⟨by omega, by omega, by rw [firstL, if_pos (by rw [← hfi, hmi]; omega), hmi]⟩
              | exact ⟨by omega, by omega, by rw [firstL, if_neg (by rw [← hfi, hmi]; omega)]; exact hfi⟩
           ·try dsimp only
            omega
          ·refine wp_skip' (to_k0 (fun _ _ h => h) (hK22 _ _ _ _ _ ?_))
           clear hK22
           refine wp_reg ?_
           refine ol_r (r_move rfl) rfl ?_
           refine ol_r (r_sub rfl rfl (by omega)) rfl ?_
           refine ol_r (r_assign rfl) rfl ?_
           refine ol_nil (to_k0 (fun _ _ h => h) (hK19 ((_, m + 1, _)) _ _ ?_ ?_ (sub_cons rfl (sub_cons rfl sub_nil)) (sub_cons rfl (sub_cons rfl (sub_cons rfl (sub_cons rfl (sub_cons rfl (sub_cons rfl (sub_cons rfl sub_nil))))))) (by exact (subH_row rfl (by first | (dsimp only; first | rfl | exact congrArg encI.enc midn_done.symm; done) | (first | rfl | exact congrArg encI.enc midn_done.symm; done) | (dsimp only; done)) (subH_row rfl (by first | (dsimp only; first | rfl | exact congrArg encI.enc midn_done.symm; done) | (first | rfl | exact congrArg encI.enc midn_done.symm; done) | (dsimp only; done)) subH_nil))) (subH_same rfl subH_nil)))
           ·try dsimp only
            first
              | exact ⟨by omega, by omega, by rw [firstL, if_pos (by rw [← hfi, hmi]; omega), hmi]⟩
              | exact ⟨by omega, by omega, by rw [firstL, if_neg (by rw [← hfi, hmi]; omega)]; exact hfi⟩
           ·try dsimp only
            omega
       ·refine wp_exit' (to_k0 (fun _ _ h => h) (hK17 _ _ _ _ _ ?_))
        clear hK17
        refine wp_seq' fun K33 hK33 => ?_
        refine wp_reg ?_
        refine ol_nilrow 13 3 1 ?_
        refine ol_r (r_assign rfl) rfl ?_
        refine ol_nil (to_k0 (fun _ _ h => h) (hK33 _ _ _ _ _ ?_))
        clear hK33
        refine wp_seq' fun K34 hK34 => ?_
        refine wp_seq' fun K35 hK35 => ?_
        refine wp_reg ?_
        have hmn : m = A.ss.length := by omega
        subst hmn
        have hfi2 : fi = firstL (agS A.ss fast) A.ss.length A.ss.length := by rw [hfi]
        refine ol_r (r_move rfl) rfl ?_
        try (have h108 := (tab_get hx108).2; subst h108)
        refine ol_r (r_assign rfl) rfl ?_
        refine ol_nil (to_k0 (fun _ _ h => h) (hK35 _ _ _ _ _ ?_))
        clear hK35
        refine wp_block' ?_
        apply wp_loopM (σ := List Int × Nat × Nat × Option Addr × Nat) (fun s => s.1.length = s.2.2.1 ∧ s.2.2.1 ≤ A.ss.length ∧ s.2.2.1 ≤ s.2.1 ∧ ∃ f, A.ss.length ≤ s.2.1 + f ∧ s.1 ++ chainK (agS A.ss fast) A.ss.length f s.2.1 = chainK (agS A.ss fast) A.ss.length (A.ss.length + 1) (firstL (agS A.ss fast) A.ss.length A.ss.length)) (fun s => [(14, .int .i64 s.2.1), (13, .slice s.2.2.2.1 s.2.2.1 s.2.2.2.2)]) [(4, _), (5, _), (7, _), (9, _)] (fun s => [(13, .row s.2.2.2.1 s.2.2.1 s.2.2.2.2 (encI.enc s.1) 3 1)]) [(2, _), (29, _), (32, _)] (fun s => A.ss.length + 1 - s.2.1) (([], fi, 0, none, 0))
        ·try dsimp only
         exact ⟨rfl, Nat.zero_le _, Nat.zero_le _, A.ss.length + 1, by omega, by rw [hfi2]; rfl⟩
        ·exact (sub_cons rfl (sub_cons rfl sub_nil))
        ·exact (sub_cons rfl (sub_cons rfl (sub_cons rfl (sub_cons rfl sub_nil))))
        ·exact (subH_row rfl (by first | (dsimp only; rfl; done) | (rfl; done) | (dsimp only; done)) subH_nil)
        ·exact (subH_same rfl (subH_same rfl (subH_same rfl subH_nil)))
        ·rintro ⟨ys, i3, cnt, oa, oc⟩ ⟨hcnt, hcn, hci, f, hf, hT⟩
         dsimp only at hcnt hcn hci hf hT ⊢
         intro K36 hK36
         refine wp_seq' fun K37 hK37 => ?_
         refine wp_seq' fun K38 hK38 => ?_
         refine wp_reg ?_
         refine ol_r (r_move rfl) rfl ?_
         refine ol_r (r_move rfl) rfl ?_
         refine ol_r (r_lss rfl rfl) rfl ?_
         refine ol_nil (to_k0 (fun _ _ h => h) (hK38 _ _ _ _ _ ?_))
         clear hK38
         first | refine wp_condD rfl (fun hc105 => ?_) (fun hc105 => ?_) | refine wp_condN rfl (fun hc105 => ?_) (fun hc105 => ?_) | refine wp_condNB rfl (fun hc105 => ?_) (fun hc105 => ?_) | refine wp_cond' rfl (fun hc105 => ?_) (fun hc105 => ?_)
         ·refine wp_skip' (to_k0 (fun _ _ h => h) (hK37 _ _ _ _ _ ?_))
          clear hK37
          refine wp_seq' fun K39 hK39 => ?_
          refine wp_block' ?_
          refine wp_reg ?_
          obtain ⟨f', rfl⟩ : ∃ f', f = f' + 1 := ⟨f - 1, by omega⟩
          have hi3 : i3 < A.ss.length := by omega
          rw [chainK_go hi3] at hT
          have hsp := nextL_spec (ag := agS A.ss fast) hi3
          refine ol_r (r_move rfl) rfl ?_
          refine ol_r (r_move rfl) rfl ?_
          refine ol_bs1 112 rfl rfl rw34 rfl rfl rfl fun a112 => ?_
          refine ol_append1 (id := 13) (id2 := 112) rfl rfl rfl rfl rfl rw34 (by omega) rfl fun a113 c113 => ?_
          refine ol_r (r_assign rfl) rfl ?_
          refine ol_nil (to_k0 (fun _ _ h => h) (hK39 _ _ _ _ _ ?_))
          clear hK39
          refine wp_reg ?_
          refine ol_r (r_move rfl) rfl ?_
          refine ol_r (r_move rfl) rfl ?_
          refine ol_ixo (id := 32) encI _ rfl rfl rfl rfl sl34 (by omega) rfl fun x108 hx108 => ?_
          try simp only [Int.toNat_natCast] at hx108
          try simp only [Int.toNat_natCast] at hx108
          refine ol_r (r_ldw rfl (fun w1 hb1 hs1 hB1 => show Loads _ _ _ _ (.int .i64 x108) from ld_own (id := 32) hs1 rfl rfl ty3 hx108)) rfl ?_
          try (have h108 := (tab_get hx108).2; subst h108)
          refine ol_r (r_assign rfl) rfl ?_
          refine ol_nil (to_k0 (fun _ _ h => h) (hK36 ((ys ++ [(i3 : Int)], _, _, _, _)) _ _ ?_ ?_ (sub_cons rfl (sub_cons rfl sub_nil)) (sub_cons rfl (sub_cons rfl (sub_cons rfl (sub_cons rfl sub_nil)))) (by exact (subH_row rfl (by first | (dsimp only; rw [Enc.enc_append]; rfl; done) | (rw [Enc.enc_append]; rfl; done) | (dsimp only; done)) subH_nil)) (subH_same rfl (subH_same rfl (subH_same rfl subH_nil)))))
          ·try dsimp only
           exact ⟨by simp [hcnt], by omega, by omega, f', by omega, by rw [← hT, List.append_assoc]; rfl⟩
          ·try dsimp only
           omega
         ·refine wp_exit' (to_k0 (fun _ _ h => h) (hK34 _ _ _ _ _ ?_))
          clear hK34
          refine wp_seq' fun K40 hK40 => ?_
          refine wp_reg ?_
          refine ol_r (r_move rfl) rfl ?_
          refine ol_r (r_assign rfl) rfl ?_
          refine ol_r (r_assign rfl) rfl ?_
          refine ol_nil (to_k0 (fun _ _ h => h) (hK40 _ _ _ _ _ ?_))
          clear hK40
          refine hQ.ret (rvs2 (rv_t rfl) (rv_t rfl)) (fun _ _ h => h) fun w hb hs hB hkd => ?_
          have h := keepR_0 (a := A.d) (f := fast) h0 hin (by show ¬2000 < A.ss.length; omega)
          rw [h]
          rw [chainK_stop (by omega), List.append_nil] at hT
          refine ⟨_, _, _, rfl, hb, ?_⟩
          change Ent.ok _ _ (.row _ _ _ (encI.enc (chainK (agS A.ss fast) A.ss.length (A.ss.length + 1) (firstL (agS A.ss fast) A.ss.length A.ss.length))) _ _)
          rw [← hT]
          exact hs.ok 13 _ rfl
     ·refine ol_make encI (0) 32 rfl rfl rw34 z3 rfl rfl (by omega) rfl fun a32 => ?_
      refine ol_nil (to_k0 (fun _ _ h => h) (hK14 _ _ ⟨.inr (by repeat' first | exact subH_nil | refine subH_same rfl ?_ | (refine subH_blk rfl (by repeat' first | exact sub_nil | refine sub_cons rfl ?_) ?_)), trivial⟩ ?_))
      clear hK14
      refine aq_one (i := 2) (by kernel_rfl) rfl fun K15 hK15 => ?_
      refine ol_make encI (0) 29 rfl rfl rw34 z3 rfl rfl (by omega) rfl fun a29 => ?_
      refine ol_nil (to_k0 (fun _ _ h => h) (hK15 _ _ ⟨.inr (by repeat' first | exact subH_nil | refine subH_same rfl ?_ | (refine subH_blk rfl (by repeat' first | exact sub_nil | refine sub_cons rfl ?_) ?_)), trivial⟩ ?_))
      clear hK15
      refine aq_r 6 999 rfl (by kernel_rfl) (by kernel_rfl) (by kernel_rfl) (.head _) (by kernel_rfl) (by kernel_rfl) rfl (r_assign rfl) ?_
      refine aq_r 7 999 rfl (by kernel_rfl) (by kernel_rfl) (by kernel_rfl) (.head _) (by kernel_rfl) (by kernel_rfl) rfl (r_assign rfl) ?_
      refine aq_done (by kernel_rfl) ?_
      refine (to_k0 (fun _ _ h => h) (hK13 _ _ _ _ _ ?_))
      clear hK13
      refine wp_seq' fun K16 hK16 => ?_
      refine wp_reg ?_
      refine ol_r (r_move rfl) rfl ?_
      refine ol_r (r_assign rfl) rfl ?_
      refine ol_nil (to_k0 (fun _ _ h => h) (hK16 _ _ _ _ _ ?_))
      clear hK16
      refine wp_seq' fun K17 hK17 => ?_
      refine wp_seq' fun K18 hK18 => ?_
      refine wp_reg ?_
      refine ol_r (r_move rfl) rfl ?_
      refine ol_r (r_sub rfl rfl (by omega)) rfl ?_
      refine ol_r (r_assign rfl) rfl ?_
      refine ol_nil (to_k0 (fun _ _ h => h) (hK18 _ _ _ _ _ ?_))
      clear hK18
      refine wp_block' ?_
      apply wp_loopM (σ := Int × Nat × Nat) (fun s => s.1 = A.ss.length - 1 - s.2.1 ∧ s.2.1 ≤ A.ss.length ∧ s.2.2 = firstL (agS A.ss fast) A.ss.length s.2.1) (fun s => [(11, .int .i64 s.1), (10, .int .i64 s.2.2)]) [(1, _), (2, _), (4, _), (5, _), (7, _), (8, _), (9, _)] (fun s => [(29, .row a29 (A.sn + 1) (A.sn + 1) (encI.enc (tab (A.ss.length + 1) (keepL (agS A.ss fast) A.ss.length s.2.1))) 3 1), (32, .row a32 (A.sn + 1) (A.sn + 1) (encI.enc (tab (A.ss.length + 1) fun j => (nextL (agS A.ss fast) A.ss.length s.2.1 j : Int))) 3 1)]) [(2, _)] (fun s => A.ss.length - s.2.1) (((A.sn : Int) - 1, 0, A.sn))
      ·try dsimp only
       exact ⟨by omega, Nat.zero_le _, hsn.symm⟩
      ·exact (sub_cons rfl (sub_cons rfl sub_nil))
      ·exact (sub_cons rfl (sub_cons rfl (sub_cons rfl (sub_cons rfl (sub_cons rfl (sub_cons rfl (sub_cons rfl sub_nil)))))))
      ·exact (subH_row rfl (by first | (dsimp only; first | rfl | (rw [hN1, ← hsn, tab_zero]; rfl); done) | (first | rfl | (rw [hN1, ← hsn, tab_zero]; rfl); done) | (dsimp only; done)) (subH_row rfl (by first | (dsimp only; first | rfl | (rw [hN1, ← hsn, tab_zero]; rfl); done) | (first | rfl | (rw [hN1, ← hsn, tab_zero]; rfl); done) | (dsimp only; done)) subH_nil))
      ·exact (subH_same rfl subH_nil)
      ·rintro ⟨i, m, fi⟩ ⟨hi, hm, hfi⟩
       dsimp only at hi hm hfi ⊢
       intro K19 hK19
       refine wp_seq' fun K20 hK20 => ?_
       refine wp_seq' fun K21 hK21 => ?_
       refine wp_reg ?_
       refine ol_r (r_move rfl) rfl ?_
       refine ol_r (r_geq rfl rfl) rfl ?_
       refine ol_nil (to_k0 (fun _ _ h => h) (hK21 _ _ _ _ _ ?_))
       clear hK21
       first | refine wp_condD rfl (fun hc37 => ?_) (fun hc37 => ?_) | refine wp_condN rfl (fun hc37 => ?_) (fun hc37 => ?_) | refine wp_condNB rfl (fun hc37 => ?_) (fun hc37 => ?_) | refine wp_cond' rfl (fun hc37 => ?_) (fun hc37 => ?_)
       ·refine wp_skip' (to_k0 (fun _ _ h => h) (hK20 _ _ _ _ _ ?_))
        clear hK20
        refine wp_seq' fun K22 hK22 => ?_
        refine wp_block' ?_
        refine wp_seq' fun K23 hK23 => ?_
        refine wp_reg ?_
        obtain ⟨iN, hiN⟩ := Int.eq_ofNat_of_zero_le (show 0 ≤ i by omega)
        subst hiN
        have hmn : m < A.ss.length := by omega
        have hmi : A.ss.length - 1 - m = iN := by omega
        refine ol_r (r_move rfl) rfl ?_
        refine ol_r (r_move rfl) rfl ?_
        refine ol_r (r_move rfl) rfl ?_
        refine ol_ixo (id := 32) encI _ rfl rfl rfl rfl sl34 (by omega) rfl fun x43 hx43 => ?_
        try simp only [Int.toNat_natCast] at hx43
        try simp only [Int.toNat_natCast] at hx43
        refine ol_storeRow (id := 32) _ _ _ rfl rfl rfl rfl sz3 (by omega) ?_
        refine ol_nil (to_k0 (fun _ _ h => h) (hK23 _ _ _ _ _ ?_))
        clear hK23
        refine wp_seq' fun K24 hK24 => ?_
        refine wp_seq' fun K25 hK25 => ?_
        refine wp_reg ?_
        refine ol_r (r_move rfl) rfl ?_
        refine ol_r (r_sub rfl rfl (by omega)) rfl ?_
        refine ol_r (r_assign rfl) rfl ?_
        refine ol_nil (to_k0 (fun _ _ h => h) (hK25 _ _ _ _ _ ?_))
        clear hK25
        refine wp_block' ?_
        apply wp_loopM (σ := Int × Nat) (fun s => s.1 = A.ss.length - 1 - s.2 ∧ s.2 ≤ m) (fun s => [(12, .int .i64 s.1)]) [(1, _), (2, _), (4, _), (5, _), (7, _), (8, _), (9, _), (10, _), (11, _)] (fun s => [(32, .row a32 (A.sn + 1) (A.sn + 1) (encI.enc (tab (A.ss.length + 1) fun j => (midN (agS A.ss fast) A.ss.length m s.2 j : Int))) 3 1)]) [(2, _), (29, _)] (fun s => m - s.2) (((A.sn : Int) - 1, 0))
        ·try dsimp only
         exact ⟨by omega, Nat.zero_le _⟩
        ·exact (sub_cons rfl sub_nil)
        ·exact (sub_cons rfl (sub_cons rfl (sub_cons rfl (sub_cons rfl (sub_cons rfl (sub_cons rfl (sub_cons rfl (sub_cons rfl (sub_cons rfl sub_nil)))))))))
        ·exact (subH_row rfl (by first | (dsimp only; rw [Int.toNat_natCast, ← hsn]; exact congrArg encI.enc (midn_zero hmn (by omega) hmi).symm; done) | (rw [Int.toNat_natCast, ← hsn]; exact congrArg encI.enc (midn_zero hmn (by omega) hmi).symm; done) | (dsimp only; done)) subH_nil)
        ·exact (subH_same rfl (subH_same rfl subH_nil))
        ·rintro ⟨k, c⟩ ⟨hk, hc⟩
         dsimp only at hk hc ⊢
         intro K26 hK26
         refine wp_seq' fun K27 hK27 => ?_
         refine wp_seq' fun K28 hK28 => ?_
         refine wp_reg ?_
         refine ol_r (r_move rfl) rfl ?_
         refine ol_r (r_move rfl) rfl ?_
         refine ol_r (r_gtr rfl rfl) rfl ?_
         refine ol_nil (to_k0 (fun _ _ h => h) (hK28 _ _ _ _ _ ?_))
         clear hK28
         first | refine wp_condD rfl (fun hc48 => ?_) (fun hc48 => ?_) | refine wp_condN rfl (fun hc48 => ?_) (fun hc48 => ?_) | refine wp_condNB rfl (fun hc48 => ?_) (fun hc48 => ?_) | refine wp_cond' rfl (fun hc48 => ?_) (fun hc48 => ?_)
         ·refine wp_skip' (to_k0 (fun _ _ h => h) (hK27 _ _ _ _ _ ?_))
          clear hK27
          refine wp_seq' fun K29 hK29 => ?_
          refine wp_block' ?_
          refine wp_seq' fun K30 hK30 => ?_
          refine wp_regq (by kernel_rfl) (by kernel_rfl) ?_
          obtain ⟨kN, hkN⟩ := Int.eq_ofNat_of_zero_le (show 0 ≤ k by omega)
          subst hkN
          have hck : A.ss.length - 1 - c = kN := by omega
          have htl := tab_len (A.ss.length + 1) (keepL (agS A.ss fast) A.ss.length m)
          have htl2 := tab_len (A.ss.length + 1) fun j => (midN (agS A.ss fast) A.ss.length m c j : Int)
          refine ql_r (r_fa (o' := 3) rfl fl26_3 rfl) rfl ?_
          refine ql_r (r_ld (id := 2) rfl rfl rfl sc22) rfl ?_
          refine ql_r (r_move rfl) rfl ?_
          refine ql_ixr hA.s rfl rfl sl22 (by omega) rfl fun x54 hx54 => ?_
          try simp only [Int.toNat_natCast] at hx54
          refine ql_r (r_ldw rfl (fun w1 hb1 hs1 hB1 => Rd.loads hA.s ty36 hx54 hb1)) rfl ?_
          refine ql_r (r_fa (o' := 3) rfl fl26_3 rfl) rfl ?_
          refine ql_r (r_ld (id := 2) rfl rfl rfl sc22) rfl ?_
          refine ql_r (r_move rfl) rfl ?_
          refine ql_ixr hA.s rfl rfl sl22 (by omega) rfl fun x59 hx59 => ?_
          try simp only [Int.toNat_natCast] at hx59
          refine ql_r (r_ldw rfl (fun w1 hb1 hs1 hB1 => Rd.loads hA.s ty36 hx59 hb1)) rfl ?_
          refine ql_r (r_move rfl) rfl ?_
          refine ql_call rfl rfl cb58 rfl (fun w1 hb1 hs1 hB1 => ref3_agree fast x54 x59 _ hin (hok.place (List.mem_of_getElem? hx54)) (hok.place (List.mem_of_getElem? hx59)) (hok.at_lt hx54 hx59 (by omega)).1 (hok.at_lt hx54 hx59 (by omega)).2.1 (hok.at_lt hx54 hx59 (by omega)).2.2) ?_
          refine ql_r (r_move rfl) rfl ?_
          refine ql_split (d := 63) rfl (fun hs63 => ?_) (fun hs63 => ?_)
          ·have phs63 := hs63; try simp only [decide_eq_true_eq, decide_eq_false_iff_not, Bool.not_eq_true', Bool.not_eq_false', Bool.not_true, Bool.not_false] at phs63
           refine ql_g rfl rfl hs63 ?_
           refine ql_r (r_move rfl) rfl ?_
           refine ql_g rfl rfl hs63 ?_
           refine ql_r (r_move rfl) rfl ?_
           refine ql_g rfl rfl hs63 ?_
           refine ql_ixo (id := 29) encI _ rfl rfl rfl rfl sl34 (by omega) (by omega) rfl fun x66 hx66 => ?_
           try simp only [Int.toNat_natCast] at hx66
           try simp only [Int.toNat_natCast] at hx66
           refine ql_g rfl rfl hs63 ?_
           refine ql_r (r_ldw rfl (fun w1 hb1 hs1 hB1 => show Loads _ _ _ _ (.int .i64 x66) from ld_own (id := 29) hs1 rfl rfl ty3 hx66)) rfl ?_
           refine ql_g rfl rfl hs63 ?_
           refine ql_r (r_move rfl) rfl ?_
           refine ql_g rfl rfl hs63 ?_
           refine ql_r (r_move rfl) rfl ?_
           refine ql_g rfl rfl hs63 ?_
           refine ql_r (r_move rfl) rfl ?_
           refine ql_g rfl rfl hs63 ?_
           refine ql_ixo (id := 32) encI _ rfl rfl rfl rfl sl34 (by omega) (by omega) rfl fun x71 hx71 => ?_
           try simp only [Int.toNat_natCast] at hx71
           try simp only [Int.toNat_natCast] at hx71
           refine ql_g rfl rfl hs63 ?_
           refine ql_r (r_ldw rfl (fun w1 hb1 hs1 hB1 => show Loads _ _ _ _ (.int .i64 x71) from ld_own (id := 32) hs1 rfl rfl ty3 hx71)) rfl ?_
           refine ql_g rfl rfl hs63 ?_
           have h71 := (tab_get hx71).2
           rw [midn_eq hmi] at h71
           have hdn := (dnK_bd (ag := agS A.ss fast) (n := A.ss.length) (keepL (agS A.ss fast) A.ss.length m) iN (by omega) c (by omega)).1
           subst h71
           refine ql_ixo (id := 29) encI _ rfl rfl rfl rfl sl34 (by omega) (by omega) rfl fun x73 hx73 => ?_
           try simp only [Int.toNat_natCast] at hx73
           try simp only [Int.toNat_natCast] at hx73
           refine ql_g rfl rfl hs63 ?_
           refine ql_r (r_ldw rfl (fun w1 hb1 hs1 hB1 => show Loads _ _ _ _ (.int .i64 x73) from ld_own (id := 29) hs1 rfl rfl ty3 hx73)) rfl ?_
           refine ql_g rfl rfl hs63 ?_
           have h66 := (tab_get hx66).2
           have h73 := (tab_get hx73).2
           refine ql_r (r_geq rfl rfl) rfl ?_
           refine ql_r (r_pickT rfl hs63 rfl) rfl ?_
           refine ql_nil (to_k0 (fun _ _ h => h) (hK30 _ _ _ _ _ ?_))
           clear hK30
           first | refine wp_condD rfl (fun hc76 => ?_) (fun hc76 => ?_) | refine wp_condN rfl (fun hc76 => ?_) (fun hc76 => ?_) | refine wp_condNB rfl (fun hc76 => ?_) (fun hc76 => ?_) | refine wp_cond' rfl (fun hc76 => ?_) (fun hc76 => ?_)
           ·refine wp_reg ?_
            refine ol_r (r_move rfl) rfl ?_
            refine ol_r (r_move rfl) rfl ?_
            refine ol_r (r_move rfl) rfl ?_
            refine ol_ixo (id := 32) encI _ rfl rfl rfl rfl sl34 (by omega) rfl fun x80 hx80 => ?_
            try simp only [Int.toNat_natCast] at hx80
            try simp only [Int.toNat_natCast] at hx80
            refine ol_storeRow (id := 32) _ _ _ rfl rfl rfl rfl sz3 (by omega) ?_
            refine ol_nil (to_k0 (fun _ _ h => h) (hK29 _ _ _ _ _ ?_))
            clear hK29
            refine wp_reg ?_
            refine ol_r (r_move rfl) rfl ?_
            refine ol_r (r_sub rfl rfl (by omega)) rfl ?_
            refine ol_r (r_assign rfl) rfl ?_
            refine ol_nil (to_k0 (fun _ _ h => h) (hK26 ((_, c + 1)) _ _ ?_ ?_ (sub_cons rfl sub_nil) (sub_cons rfl (sub_cons rfl (sub_cons rfl (sub_cons rfl (sub_cons rfl (sub_cons rfl (sub_cons rfl (sub_cons rfl (sub_cons rfl sub_nil))))))))) (by exact (subH_row rfl (by first | (dsimp only; first | (rw [Int.toNat_natCast]; exact congrArg encI.enc (midn_yes hmn (by omega) hmi hck ⟨(agS_eq hx54 hx59).trans hs63, by omega⟩).symm) | exact congrArg encI.enc (midn_no hmi hck (fun h => by have := h.2; omega)).symm | exact congrArg encI.enc (midn_no hmi hck (fun h => absurd ((agS_eq hx54 hx59).symm.trans h.1) (by rw [show agB fast x54 x59 = false from hs63]; decide))).symm; done) | (first | (rw [Int.toNat_natCast]; exact congrArg encI.enc (midn_yes hmn (by omega) hmi hck ⟨(agS_eq hx54 hx59).trans hs63, by omega⟩).symm) | exact congrArg encI.enc (midn_no hmi hck (fun h => by have := h.2; omega)).symm | exact congrArg encI.enc (midn_no hmi hck (fun h => absurd ((agS_eq hx54 hx59).symm.trans h.1) (by rw [show agB fast x54 x59 = false from hs63]; decide))).symm; done) | (dsimp only; done)) subH_nil)) (subH_same rfl (subH_same rfl subH_nil))))
            ·try dsimp only
             exact ⟨by omega, by omega⟩
            ·try dsimp only
             omega
           ·refine wp_skip' (to_k0 (fun _ _ h => h) (hK29 _ _ _ _ _ ?_))
            clear hK29
            refine wp_reg ?_
            refine ol_r (r_move rfl) rfl ?_
            refine ol_r (r_sub rfl rfl (by omega)) rfl ?_
            refine ol_r (r_assign rfl) rfl ?_
            refine ol_nil (to_k0 (fun _ _ h => h) (hK26 ((_, c + 1)) _ _ ?_ ?_ (sub_cons rfl sub_nil) (sub_cons rfl (sub_cons rfl (sub_cons rfl (sub_cons rfl (sub_cons rfl (sub_cons rfl (sub_cons rfl (sub_cons rfl (sub_cons rfl sub_nil))))))))) (by exact (subH_row rfl (by first | (dsimp only; first | (rw [Int.toNat_natCast]; exact congrArg encI.enc (midn_yes hmn (by omega) hmi hck ⟨(agS_eq hx54 hx59).trans hs63, by omega⟩).symm) | exact congrArg encI.enc (midn_no hmi hck (fun h => by have := h.2; omega)).symm | exact congrArg encI.enc (midn_no hmi hck (fun h => absurd ((agS_eq hx54 hx59).symm.trans h.1) (by rw [show agB fast x54 x59 = false from hs63]; decide))).symm; done) | (first | (rw [Int.toNat_natCast]; exact congrArg encI.enc (midn_yes hmn (by omega) hmi hck ⟨(agS_eq hx54 hx59).trans hs63, by omega⟩).symm) | exact congrArg encI.enc (midn_no hmi hck (fun h => by have := h.2; omega)).symm | exact congrArg encI.enc (midn_no hmi hck (fun h => absurd ((agS_eq hx54 hx59).symm.trans h.1) (by rw [show agB fast x54 x59 = false from hs63]; decide))).symm; done) | (dsimp only; done)) subH_nil)) (subH_same rfl (subH_same rfl subH_nil))))
            ·try dsimp only
             exact ⟨by omega, by omega⟩
            ·try dsimp only
             omega
          ·have phs63 := hs63; try simp only [decide_eq_true_eq, decide_eq_false_iff_not, Bool.not_eq_true', Bool.not_eq_false', Bool.not_true, Bool.not_false] at phs63
           refine ql_s rfl rfl hs63 rfl ?_
           refine ql_s rfl rfl hs63 rfl ?_
           refine ql_s rfl rfl hs63 rfl ?_
           refine ql_s rfl rfl hs63 rfl ?_
           refine ql_s rfl rfl hs63 rfl ?_
           refine ql_s rfl rfl hs63 rfl ?_
           refine ql_s rfl rfl hs63 rfl ?_
           refine ql_s rfl rfl hs63 rfl ?_
           refine ql_s rfl rfl hs63 rfl ?_
           refine ql_s rfl rfl hs63 rfl ?_
           refine ql_s rfl rfl hs63 rfl ?_
           refine ql_s rfl rfl hs63 rfl ?_
           refine ql_r (r_pickF rfl hs63 rfl) rfl ?_
           refine ql_nil (to_k0 (fun _ _ h => h) (hK30 _ _ _ _ _ ?_))
           clear hK30
           refine wp_condF rfl ?_
           refine wp_skip' (to_k0 (fun _ _ h => h) (hK29 _ _ _ _ _ ?_))
           clear hK29
           refine wp_reg ?_
           refine ol_r (r_move rfl) rfl ?_
           refine ol_r (r_sub rfl rfl (by omega)) rfl ?_
           refine ol_r (r_assign rfl) rfl ?_
           refine ol_nil (to_k0 (fun _ _ h => h) (hK26 ((_, c + 1)) _ _ ?_ ?_ (sub_cons rfl sub_nil) (sub_cons rfl (sub_cons rfl (sub_cons rfl (sub_cons rfl (sub_cons rfl (sub_cons rfl (sub_cons rfl (sub_cons rfl (sub_cons rfl sub_nil))))))))) (by exact (subH_row rfl (by first | (dsimp only; first | (rw [Int.toNat_natCast]; exact congrArg encI.enc (midn_yes hmn (by omega) hmi hck ⟨(agS_eq hx54 hx59).trans hs63, by omega⟩).symm) | exact congrArg encI.enc (midn_no hmi hck (fun h => by have := h.2; omega)).symm | exact congrArg encI.enc (midn_no hmi hck (fun h => absurd ((agS_eq hx54 hx59).symm.trans h.1) (by rw [show agB fast x54 x59 = false from hs63]; decide))).symm; done) | (first | (rw [Int.toNat_natCast]; exact congrArg encI.enc (midn_yes hmn (by omega) hmi hck ⟨(agS_eq hx54 hx59).trans hs63, by omega⟩).symm) | exact congrArg encI.enc (midn_no hmi hck (fun h => by have := h.2; omega)).symm | exact congrArg encI.enc (midn_no hmi hck (fun h => absurd ((agS_eq hx54 hx59).symm.trans h.1) (by rw [show agB fast x54 x59 = false from hs63]; decide))).symm; done) | (dsimp only; done)) subH_nil)) (subH_same rfl (subH_same rfl subH_nil))))
           ·try dsimp only
            exact ⟨by omega, by omega⟩
           ·try dsimp only
            omega
         ·refine wp_exit' (to_k0 (fun _ _ h => h) (hK24 _ _ _ _ _ ?_))
          clear hK24
          refine wp_seq' fun K31 hK31 => ?_
          refine wp_reg ?_
          refine ol_r (r_move rfl) rfl ?_
          refine ol_r (r_move rfl) rfl ?_
          refine ol_r (r_move rfl) rfl ?_
          refine ol_r (r_move rfl) rfl ?_
          refine ol_r (r_move rfl) rfl ?_
          refine ol_ixo (id := 32) encI _ rfl rfl rfl rfl sl34 (by omega) rfl fun x86 hx86 => ?_
          try simp only [Int.toNat_natCast] at hx86
          try simp only [Int.toNat_natCast] at hx86
          refine ol_r (r_ldw rfl (fun w1 hb1 hs1 hB1 => show Loads _ _ _ _ (.int .i64 x86) from ld_own (id := 32) hs1 rfl rfl ty3 hx86)) rfl ?_
          have hcm : c = m := by omega
          subst c
          have h86 := (tab_get hx86).2
          rw [midn_eq hmi] at h86
          have hdn := (dnK_bd (ag := agS A.ss fast) (n := A.ss.length) (keepL (agS A.ss fast) A.ss.length m) iN (by omega) m (by omega)).1
          subst h86
          refine ol_ixo (id := 29) encI _ rfl rfl rfl rfl sl34 (by omega) rfl fun x88 hx88 => ?_
          try simp only [Int.toNat_natCast] at hx88
          try simp only [Int.toNat_natCast] at hx88
          refine ol_r (r_ldw rfl (fun w1 hb1 hs1 hB1 => show Loads _ _ _ _ (.int .i64 x88) from ld_own (id := 29) hs1 rfl rfl ty3 hx88)) rfl ?_
          have h88 := (tab_get hx88).2
          have hp88 := keepL_pos (ag := agS A.ss fast) (n := A.ss.length) m (dnK (agS A.ss fast) A.ss.length (keepL (agS A.ss fast) A.ss.length m) iN m) (by omega)
          refine ol_r (r_add rfl rfl (by omega)) rfl ?_
          refine ol_ixo (id := 29) encI _ rfl rfl rfl rfl sl34 (by omega) rfl fun x91 hx91 => ?_
          try simp only [Int.toNat_natCast] at hx91
          try simp only [Int.toNat_natCast] at hx91
          refine ol_storeRow (id := 29) _ _ _ rfl rfl rfl rfl sz3 (by omega) ?_
          refine ol_nil (to_k0 (fun _ _ h => h) (hK31 _ _ _ _ _ ?_))
          clear hK31
          refine wp_seq' fun K32 hK32 => ?_
          refine wp_regq (by kernel_rfl) (by kernel_rfl) ?_
          simp only [Int.toNat_natCast]
          rw [h88, keepL_set hmn (by omega) hmi]
          have hfs := (firstL_spec (ag := agS A.ss fast) (n := A.ss.length) m (by omega)).1
          have htl := tab_len (A.ss.length + 1) (keepL (agS A.ss fast) A.ss.length (m + 1))
          refine ql_r (r_move rfl) rfl ?_
          refine ql_r (r_move rfl) rfl ?_
          refine ql_ixo (id := 29) encI _ rfl rfl rfl rfl sl34 (by omega) (by omega) rfl fun x94 hx94 => ?_
          try simp only [Int.toNat_natCast] at hx94
          try simp only [Int.toNat_natCast] at hx94
          refine ql_r (r_ldw rfl (fun w1 hb1 hs1 hB1 => show Loads _ _ _ _ (.int .i64 x94) from ld_own (id := 29) hs1 rfl rfl ty3 hx94)) rfl ?_
          refine ql_r (r_move rfl) rfl ?_
          refine ql_r (r_move rfl) rfl ?_
          refine ql_ixo (id := 29) encI _ rfl rfl rfl rfl sl34 (by omega) (by omega) rfl fun x98 hx98 => ?_
          try simp only [Int.toNat_natCast] at hx98
          try simp only [Int.toNat_natCast] at hx98
          refine ql_r (r_ldw rfl (fun w1 hb1 hs1 hB1 => show Loads _ _ _ _ (.int .i64 x98) from ld_own (id := 29) hs1 rfl rfl ty3 hx98)) rfl ?_
          have h94 := (tab_get hx94).2
          have h98 := (tab_get hx98).2
          refine ql_r (r_geq rfl rfl) rfl ?_
          refine ql_nil (to_k0 (fun _ _ h => h) (hK32 _ _ _ _ _ ?_))
          clear hK32
          first | refine wp_condD rfl (fun hc100 => ?_) (fun hc100 => ?_) | refine wp_condN rfl (fun hc100 => ?_) (fun hc100 => ?_) | refine wp_condNB rfl (fun hc100 => ?_) (fun hc100 => ?_) | refine wp_cond' rfl (fun hc100 => ?_) (fun hc100 => ?_)
          ·refine wp_reg ?_
           refine ol_r (r_move rfl) rfl ?_
           refine ol_r (r_assign rfl) rfl ?_
           refine ol_nil (to_k0 (fun _ _ h => h) (hK22 _ _ _ _ _ ?_))
           clear hK22
           refine wp_reg ?_
           refine ol_r (r_move rfl) rfl ?_
           refine ol_r (r_sub rfl rfl (by omega)) rfl ?_
           refine ol_r (r_assign rfl) rfl ?_
           refine ol_nil (to_k0 (fun _ _ h => h) (hK19 ((_, m + 1, _)) _ _ ?_ ?_ (sub_cons rfl (sub_cons rfl sub_nil)) (sub_cons rfl (sub_cons rfl (sub_cons rfl (sub_cons rfl (sub_cons rfl (sub_cons rfl (sub_cons rfl sub_nil))))))) (by exact (subH_row rfl (by first | (dsimp only; first | rfl | exact congrArg encI.enc midn_done.symm; done) | (first | rfl | exact congrArg encI.enc midn_done.symm; done) | (dsimp only; done)) (subH_row rfl (by first | (dsimp only; first | rfl | exact congrArg encI.enc midn_done.symm; done) | (first | rfl | exact congrArg encI.enc midn_done.symm; done) | (dsimp only; done)) subH_nil))) (subH_same rfl subH_nil)))
           ·try dsimp only
            first
              | exact ⟨by omega, by omega, by rw [firstL, if_pos (by rw [← hfi, hmi]; omega), hmi]⟩
              | exact ⟨by omega, by omega, by rw [firstL, if_neg (by rw [← hfi, hmi]; omega)]; exact hfi⟩
           ·try dsimp only
            omega
          ·refine wp_skip' (to_k0 (fun _ _ h => h) (hK22 _ _ _ _ _ ?_))
           clear hK22
           refine wp_reg ?_
           refine ol_r (r_move rfl) rfl ?_
           refine ol_r (r_sub rfl rfl (by omega)) rfl ?_
           refine ol_r (r_assign rfl) rfl ?_
           refine ol_nil (to_k0 (fun _ _ h => h) (hK19 ((_, m + 1, _)) _ _ ?_ ?_ (sub_cons rfl (sub_cons rfl sub_nil)) (sub_cons rfl (sub_cons rfl (sub_cons rfl (sub_cons rfl (sub_cons rfl (sub_cons rfl (sub_cons rfl sub_nil))))))) (by exact (subH_row rfl (by first | (dsimp only; first | rfl | exact congrArg encI.enc midn_done.symm; done) | (first | rfl | exact congrArg encI.enc midn_done.symm; done) | (dsimp only; done)) (subH_row rfl (by first | (dsimp only; first | rfl | exact congrArg encI.enc midn_done.symm; done) | (first | rfl | exact congrArg encI.enc midn_done.symm; done) | (dsimp only; done)) subH_nil))) (subH_same rfl subH_nil)))
           ·try dsimp only
            first
              | exact ⟨by omega, by omega, by rw [firstL, if_pos (by rw [← hfi, hmi]; omega), hmi]⟩
              | exact ⟨by omega, by omega, by rw [firstL, if_neg (by rw [← hfi, hmi]; omega)]; exact hfi⟩
           ·try dsimp only
            omega
       ·refine wp_exit' (to_k0 (fun _ _ h => h) (hK17 _ _ _ _ _ ?_))
        clear hK17
        refine wp_seq' fun K33 hK33 => ?_
        refine wp_reg ?_
        refine ol_nilrow 13 3 1 ?_
        refine ol_r (r_assign rfl) rfl ?_
        refine ol_nil (to_k0 (fun _ _ h => h) (hK33 _ _ _ _ _ ?_))
        clear hK33
        refine wp_seq' fun K34 hK34 => ?_
        refine wp_seq' fun K35 hK35 => ?_
        refine wp_reg ?_
        have hmn : m = A.ss.length := by omega
        subst hmn
        have hfi2 : fi = firstL (agS A.ss fast) A.ss.length A.ss.length := by rw [hfi]
        refine ol_r (r_move rfl) rfl ?_
        try (have h108 := (tab_get hx108).2; subst h108)
        refine ol_r (r_assign rfl) rfl ?_
        refine ol_nil (to_k0 (fun _ _ h => h) (hK35 _ _ _ _ _ ?_))
        clear hK35
        refine wp_block' ?_
        apply wp_loopM (σ := List Int × Nat × Nat × Option Addr × Nat) (fun s => s.1.length = s.2.2.1 ∧ s.2.2.1 ≤ A.ss.length ∧ s.2.2.1 ≤ s.2.1 ∧ ∃ f, A.ss.length ≤ s.2.1 + f ∧ s.1 ++ chainK (agS A.ss fast) A.ss.length f s.2.1 = chainK (agS A.ss fast) A.ss.length (A.ss.length + 1) (firstL (agS A.ss fast) A.ss.length A.ss.length)) (fun s => [(14, .int .i64 s.2.1), (13, .slice s.2.2.2.1 s.2.2.1 s.2.2.2.2)]) [(4, _), (5, _), (7, _), (9, _)] (fun s => [(13, .row s.2.2.2.1 s.2.2.1 s.2.2.2.2 (encI.enc s.1) 3 1)]) [(2, _), (29, _), (32, _)] (fun s => A.ss.length + 1 - s.2.1) (([], fi, 0, none, 0))
        ·try dsimp only
         exact ⟨rfl, Nat.zero_le _, Nat.zero_le _, A.ss.length + 1, by omega, by rw [hfi2]; rfl⟩
        ·exact (sub_cons rfl (sub_cons rfl sub_nil))
        ·exact (sub_cons rfl (sub_cons rfl (sub_cons rfl (sub_cons rfl sub_nil))))
        ·exact (subH_row rfl (by first | (dsimp only; rfl; done) | (rfl; done) | (dsimp only; done)) subH_nil)
        ·exact (subH_same rfl (subH_same rfl (subH_same rfl subH_nil)))
        ·rintro ⟨ys, i3, cnt, oa, oc⟩ ⟨hcnt, hcn, hci, f, hf, hT⟩
         dsimp only at hcnt hcn hci hf hT ⊢
         intro K36 hK36
         refine wp_seq' fun K37 hK37 => ?_
         refine wp_seq' fun K38 hK38 => ?_
         refine wp_reg ?_
         refine ol_r (r_move rfl) rfl ?_
         refine ol_r (r_move rfl) rfl ?_
         refine ol_r (r_lss rfl rfl) rfl ?_
         refine ol_nil (to_k0 (fun _ _ h => h) (hK38 _ _ _ _ _ ?_))
         clear hK38
         first | refine wp_condD rfl (fun hc105 => ?_) (fun hc105 => ?_) | refine wp_condN rfl (fun hc105 => ?_) (fun hc105 => ?_) | refine wp_condNB rfl (fun hc105 => ?_) (fun hc105 => ?_) | refine wp_cond' rfl (fun hc105 => ?_) (fun hc105 => ?_)
         ·refine wp_skip' (to_k0 (fun _ _ h => h) (hK37 _ _ _ _ _ ?_))
          clear hK37
          refine wp_seq' fun K39 hK39 => ?_
          refine wp_block' ?_
          refine wp_reg ?_
          obtain ⟨f', rfl⟩ : ∃ f', f = f' + 1 := ⟨f - 1, by omega⟩
          have hi3 : i3 < A.ss.length := by omega
          rw [chainK_go hi3] at hT
          have hsp := nextL_spec (ag := agS A.ss fast) hi3
          refine ol_r (r_move rfl) rfl ?_
          refine ol_r (r_move rfl) rfl ?_
          refine ol_bs1 112 rfl rfl rw34 rfl rfl rfl fun a112 => ?_
          refine ol_append1 (id := 13) (id2 := 112) rfl rfl rfl rfl rfl rw34 (by omega) rfl fun a113 c113 => ?_
          refine ol_r (r_assign rfl) rfl ?_
          refine ol_nil (to_k0 (fun _ _ h => h) (hK39 _ _ _ _ _ ?_))
          clear hK39
          refine wp_reg ?_
          refine ol_r (r_move rfl) rfl ?_
          refine ol_r (r_move rfl) rfl ?_
          refine ol_ixo (id := 32) encI _ rfl rfl rfl rfl sl34 (by omega) rfl fun x108 hx108 => ?_
          try simp only [Int.toNat_natCast] at hx108
          try simp only [Int.toNat_natCast] at hx108
          refine ol_r (r_ldw rfl (fun w1 hb1 hs1 hB1 => show Loads _ _ _ _ (.int .i64 x108) from ld_own (id := 32) hs1 rfl rfl ty3 hx108)) rfl ?_
          try (have h108 := (tab_get hx108).2; subst h108)
          refine ol_r (r_assign rfl) rfl ?_
          refine ol_nil (to_k0 (fun _ _ h => h) (hK36 ((ys ++ [(i3 : Int)], _, _, _, _)) _ _ ?_ ?_ (sub_cons rfl (sub_cons rfl sub_nil)) (sub_cons rfl (sub_cons rfl (sub_cons rfl (sub_cons rfl sub_nil)))) (by exact (subH_row rfl (by first | (dsimp only; rw [Enc.enc_append]; rfl; done) | (rw [Enc.enc_append]; rfl; done) | (dsimp only; done)) subH_nil)) (subH_same rfl (subH_same rfl (subH_same rfl subH_nil)))))
          ·try dsimp only
           exact ⟨by simp [hcnt], by omega, by omega, f', by omega, by rw [← hT, List.append_assoc]; rfl⟩
          ·try dsimp only
           omega
         ·refine wp_exit' (to_k0 (fun _ _ h => h) (hK34 _ _ _ _ _ ?_))
          clear hK34
          refine wp_seq' fun K40 hK40 => ?_
          refine wp_reg ?_
          refine ol_r (r_move rfl) rfl ?_
          refine ol_r (r_assign rfl) rfl ?_
          refine ol_r (r_assign rfl) rfl ?_
          refine ol_nil (to_k0 (fun _ _ h => h) (hK40 _ _ _ _ _ ?_))
          clear hK40
          refine hQ.ret (rvs2 (rv_t rfl) (rv_t rfl)) (fun _ _ h => h) fun w hb hs hB hkd => ?_
          have h := keepR_0 (a := A.d) (f := fast) h0 hin (by show ¬2000 < A.ss.length; omega)
          rw [h]
          rw [chainK_stop (by omega), List.append_nil] at hT
          refine ⟨_, _, _, rfl, hb, ?_⟩
          change Ent.ok _ _ (.row _ _ _ (encI.enc (chainK (agS A.ss fast) A.ss.length (A.ss.length + 1) (firstL (agS A.ss fast) A.ss.length A.ss.length))) _ _)
          rw [← hT]
          exact hs.ok 13 _ rfl
theorem law_keep (A : ActV) (fast : Int) (w : World) (hA : A.Ok w.heap.size w) :
    Calls Try.prog 8 #[.agg #[.string A.name, .int .i64 A.sport, .int .i64 A.start, .slice A.sa A.sn A.sc, .slice A.la A.ln A.lc, .slice A.ta A.tn A.tc], .int .i64 fast] w fun e w' => e = .returned (.bool true) ∧ Below w.heap.size w w' := by
  refine enterQ (N := 32) (C := fun _ => True) (H := []) (B := w.heap.size) (args := [_, _]) Try.func8 rfl rfl rfl (Nat.le_refl _) (Sat.nil _ _) fun Q hQ => ?_
  refine wp_seq' fun K1 hK1 => ?_
  refine wp_reg ?_
  refine ol_box 2 rfl rfl rfl fun b2 => ?_
  refine ol_r (r_assign rfl) rfl ?_
  refine ol_nil (to_k0 (fun _ _ h => h) (hK1 _ _ _ _ _ ?_))
  clear hK1
  refine wp_seq' fun K2 hK2 => ?_
  refine wp_reg ?_
  refine ol_r (r_lda (id := 2) (n := 6) rfl rfl rfl ag26) rfl ?_
  refine ol_r (r_move rfl) rfl ?_
  refine ol_call rfl rfl cb26 rfl (fun w1 hb1 hs1 hB1 => Calls.mono (track_Keep A fast _ (hA.at hb1 hB1)) ?_)
  rintro e w2 ⟨a12, n12, c12, rfl, hf12⟩
  refine After.fresh (id := 12) rfl hb1 hs1 hB1 hf12 ?_
  have hl12 := hf12.len; clear hf12 hB1 hs1 hb1 w2 w1
  refine ol_r (r_move rfl) rfl ?_
  refine ol_r (r_extract rfl rfl) rfl ?_
  refine ol_r (r_extract rfl rfl) rfl ?_
  refine ol_r (r_assign rfl) rfl ?_
  refine ol_r (r_assign rfl) rfl ?_
  refine ol_nil (to_k0 (fun _ _ h => h) (hK2 _ _ _ _ _ ?_))
  clear hK2
  refine wp_seq' fun K3 hK3 => ?_
  refine wp_reg ?_
  refine ol_r (r_lda (id := 2) (n := 6) rfl rfl rfl ag26) rfl ?_
  refine ol_r (r_move rfl) rfl ?_
  refine ol_call rfl rfl cb27 rfl (fun w1 hb1 hs1 hB1 => Calls.mono (ref3_Keep A fast _ (hA.at hb1 hB1)) ?_)
  rintro e w2 ⟨a18, n18, c18, rfl, hf18⟩
  refine After.fresh (id := 18) rfl hb1 hs1 hB1 hf18 ?_
  have hl18 := hf18.len; clear hf18 hB1 hs1 hb1 w2 w1
  refine ol_r (r_move rfl) rfl ?_
  refine ol_r (r_extract rfl rfl) rfl ?_
  refine ol_r (r_extract rfl rfl) rfl ?_
  refine ol_r (r_assign rfl) rfl ?_
  refine ol_r (r_assign rfl) rfl ?_
  refine ol_nil (to_k0 (fun _ _ h => h) (hK3 _ _ _ _ _ ?_))
  clear hK3
  refine wp_seq' fun K4 hK4 => ?_
  refine wp_reg ?_
  refine ol_r (r_move rfl) rfl ?_
  refine ol_r (r_move rfl) rfl ?_
  refine ol_call rfl rfl cb19 rfl (fun w1 hb1 hs1 hB1 => Calls.mono (equal_int _ _ _ _ _ _ (keepR A.d fast).1 (keepR A.d fast).1 _ (Sat.rd hs1 (id := 12) rfl rfl) (Sat.rd hs1 (id := 18) rfl rfl)) ?_)
  rintro e w2 ⟨rfl, hb2⟩
  refine After.below rfl hb1 hs1 hB1 hb2 ?_
  clear hb2 hB1 hs1 hb1 w2 w1
  refine ol_r (r_move rfl) rfl ?_
  refine ol_split (d := 24) rfl (fun hs24 => ?_) (fun hs24 => ?_)
  ·have phs24 := hs24; try simp only [decide_eq_true_eq, decide_eq_false_iff_not, Bool.not_eq_true', Bool.not_eq_false', Bool.not_true, Bool.not_false] at phs24
   refine ol_g rfl rfl hs24 ?_
   refine ol_r (r_move rfl) rfl ?_
   refine ol_g rfl rfl hs24 ?_
   refine ol_r (r_move rfl) rfl ?_
   refine ol_g rfl rfl hs24 ?_
   refine ol_r (r_eql rfl rfl) rfl ?_
   refine ol_r (r_pickT rfl hs24 rfl) rfl ?_
   refine ol_r (r_move rfl) rfl ?_
   refine ol_split (d := 29) rfl (fun hs29 => ?_) (fun hs29 => ?_)
   ·have phs29 := hs29; try simp only [decide_eq_true_eq, decide_eq_false_iff_not, Bool.not_eq_true', Bool.not_eq_false', Bool.not_true, Bool.not_false] at phs29
    refine ol_g rfl rfl hs29 ?_
    refine ol_call rfl rfl cb14 rfl (fun w1 hb1 hs1 hB1 => Calls.mono (law3_told _) ?_)
    rintro e w2 ⟨rfl, hb2⟩
    refine After.below rfl hb1 hs1 hB1 hb2 ?_
    clear hb2 hB1 hs1 hb1 w2 w1
    refine ol_r (r_pickT rfl hs29 rfl) rfl ?_
    refine ol_r (r_assign rfl) rfl ?_
    refine ol_nil (to_k0 (fun _ _ h => h) (hK4 _ _ _ _ _ ?_))
    clear hK4
    refine hQ.ret (rvs1 (rv_t rfl)) (fun _ _ h => h) fun w hb hs hB hkd => ?_
    first
      | exact ⟨rfl, hb⟩
      | (exfalso; simp at phs24; done)
      | (exfalso; simp at phs29; done)
   ·have phs29 := hs29; try simp only [decide_eq_true_eq, decide_eq_false_iff_not, Bool.not_eq_true', Bool.not_eq_false', Bool.not_true, Bool.not_false] at phs29
    refine ol_s rfl rfl hs29 rfl ?_
    refine ol_r (r_pickF rfl hs29 rfl) rfl ?_
    refine ol_r (r_assign rfl) rfl ?_
    refine ol_nil (to_k0 (fun _ _ h => h) (hK4 _ _ _ _ _ ?_))
    clear hK4
    refine hQ.ret (rvs1 (rv_t rfl)) (fun _ _ h => h) fun w hb hs hB hkd => ?_
    first
      | exact ⟨rfl, hb⟩
      | (exfalso; simp at phs24; done)
      | (exfalso; simp at phs29; done)
  ·have phs24 := hs24; try simp only [decide_eq_true_eq, decide_eq_false_iff_not, Bool.not_eq_true', Bool.not_eq_false', Bool.not_true, Bool.not_false] at phs24
   refine ol_s rfl rfl hs24 rfl ?_
   refine ol_s rfl rfl hs24 rfl ?_
   refine ol_s rfl rfl hs24 rfl ?_
   refine ol_r (r_pickF rfl hs24 rfl) rfl ?_
   refine ol_r (r_move rfl) rfl ?_
   refine ol_s rfl rfl rfl rfl ?_
   refine ol_r (r_pickF rfl rfl rfl) rfl ?_
   refine ol_r (r_assign rfl) rfl ?_
   refine ol_nil (to_k0 (fun _ _ h => h) (hK4 _ _ _ _ _ ?_))
   clear hK4
   refine hQ.ret (rvs1 (rv_t rfl)) (fun _ _ h => h) fun w hb hs hB hkd => ?_
   first
     | exact ⟨rfl, hb⟩
     | (exfalso; simp at phs24; done)
     | (exfalso; simp at phs29; done)
end Go.Proofs.Ytlbcefnbjdpljaa
