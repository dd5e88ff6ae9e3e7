/-
  How far two lists of places are apart: the program.
-/
import Derived.Test.YtbbhcffkleplnaaApartM
import Derived.Test.YtbbhcffkleplnaaSeg
import Derived.Test.YtbbhcffkleplnaaCross
import Derived.Test.YtbbhcffkleplnaaIndexFn
import Derived.Test.YtbbhcffkleplnaaHg
namespace Go.Proofs.Ytbbhcffkleplnaa
open Go Go.RowKit Hx
set_option linter.unusedVariables false
set_option linter.unusedSimpArgs false
set_option maxRecDepth 8000
def encPoint : Enc PtR := { size := 2, cells := fun x => [.int .i64 x.x, .int .i64 x.y], val := fun x => .agg #[.int .i64 x.x, .int .i64 x.y], len := fun _ => rfl, ones := fun _ u h => by simp at h; rcases h with rfl | rfl <;> rfl, pos := by decide, vc := fun _ => rfl }
def mk_encPoint (a b : Int) : PtR := ⟨a, b⟩
theorem ty62 : Ty Try.prog 62 encPoint := .inr ⟨ag62, fun _ => rfl⟩
structure SlR where
  a : Option Addr
  n : Nat
  c : Nat
def encSl : Enc SlR := { size := 1, cells := fun x => [.slice x.a x.n x.c], val := fun x => .slice x.a x.n x.c, len := fun _ => rfl, ones := fun _ u h => by simp at h; subst h; rfl, pos := by decide, vc := fun _ => rfl }
theorem ty57 : Ty Try.prog 57 encSl := .inl ⟨sc57, fun _ => rfl⟩
theorem indexFunc_pt (a : Option Addr) (n c1 : Nat) (xs : List PtR) (g : FuncId) (cv : List Value) (p : PtR → Bool) (w : World) (hx : Rd encPoint w.heap.size w a n c1 xs) (hg : Callable Try.prog g)
    (hf : ∀ x w', x ∈ xs → Below w.heap.size w w' → w.heap.size ≤ w'.heap.size → Calls Try.prog g ([encPoint.val x] ++ cv).toArray w' fun e w2 => e = .returned (.bool (p x)) ∧ Below w'.heap.size w' w2) :
    Calls Try.prog 86 #[.slice a n c1, .func (.func g) #[] cv.toArray] w fun e w' => e = .returned (.int .i64 (idxP p xs)) ∧ Below w.heap.size w w' := by
  have hl := hx.len
  have hfit := hx.fit
  subst hl
  refine enterQ (N := 19) (C := fun _ => True) (H := []) (B := w.heap.size) (args := [_, _]) Try.func86 rfl rfl rfl (Nat.le_refl _) (Sat.nil _ _) fun Q hQ => ?_
  refine wp_seq' fun K1 hK1 => ?_
  refine wp_reg ?_
  refine ol_r (r_assign rfl) rfl ?_
  refine ol_nil (to_k0 (fun _ _ h => h) (hK1 _ _ _ _ _ ?_))
  clear hK1
  refine wp_seq' fun K2 hK2 => ?_
  refine wp_seq' fun K3 hK3 => ?_
  refine wp_reg ?_
  refine ol_r (r_move rfl) rfl ?_
  refine ol_r (r_len rfl sl57) rfl ?_
  refine ol_r (r_move rfl) rfl ?_
  refine ol_nil (to_k0 (fun _ _ h => h) (hK3 _ _ _ _ _ ?_))
  clear hK3
  refine wp_block' ?_
  apply wp_loopM (σ := Nat) (fun s => s ≤ xs.length ∧ ∀ y ∈ xs.take s, p y = false) (fun s => [(8, .int .i64 s)]) [(0, _), (1, _), (7, _)] (fun s => []) [] (fun s => xs.length - s) (0)
  ·try dsimp only
   simp
  ·exact (sub_cons rfl sub_nil)
  ·exact (sub_cons rfl (sub_cons rfl (sub_cons rfl sub_nil)))
  ·exact subH_nil
  ·exact subH_nil
  ·rintro k ⟨hk, hP⟩
   intro K4 hK4
   refine wp_seq' fun K5 hK5 => ?_
   refine wp_reg ?_
   refine ol_r (r_lss rfl rfl) rfl ?_
   refine ol_nil (to_k0 (fun _ _ h => h) (hK5 _ _ _ _ _ ?_))
   clear hK5
   refine wp_seq' fun K6 hK6 => ?_
   refine wp_condD rfl (fun hc9 => ?_) (fun hc9 => ?_)
   ·refine wp_skip' (to_k0 (fun _ _ h => h) (hK6 _ _ _ _ _ ?_))
    clear hK6
    refine wp_seq' fun K7 hK7 => ?_
    refine wp_block' ?_
    refine wp_seq' fun K8 hK8 => ?_
    refine wp_reg ?_
    refine ol_r (r_move rfl) rfl ?_
    refine ol_r (r_assign rfl) rfl ?_
    refine ol_nil (to_k0 (fun _ _ h => h) (hK8 _ _ _ _ _ ?_))
    clear hK8
    refine wp_seq' fun K9 hK9 => ?_
    refine wp_reg ?_
    refine ol_r (r_move rfl) rfl ?_
    refine ol_r (r_move rfl) rfl ?_
    refine ol_r (r_move rfl) rfl ?_
    refine ol_ixr hx rfl rfl sl57 (by omega) rfl fun x14 hx14 => ?_
    try simp only [Int.toNat_natCast] at hx14
    refine ol_r (r_ldw rfl (fun w1 hb1 hs1 hB1 => Rd.loads hx ty62 hx14 hb1)) rfl ?_
    refine ol_call rfl rfl hg rfl (fun w1 hb1 hs1 hB1 => Calls.mono (hf _ _ (List.mem_of_getElem? hx14) hb1 hB1) ?_)
    rintro e w2 ⟨rfl, hb2⟩
    refine After.below rfl hb1 hs1 hB1 hb2 ?_
    clear hb2 hB1 hs1 hb1 w2 w1
    refine ol_nil (to_k0 (fun _ _ h => h) (hK9 _ _ _ _ _ ?_))
    clear hK9
    refine wp_cond' rfl (fun hc16 => ?_) (fun hc16 => ?_)
    ·refine wp_seq' fun K10 hK10 => ?_
     refine wp_reg ?_
     refine ol_r (r_move rfl) rfl ?_
     refine ol_r (r_assign rfl) rfl ?_
     refine ol_nil (to_k0 (fun _ _ h => h) (hK10 _ _ _ _ _ ?_))
     clear hK10
     refine hQ.ret (rvs1 (rv_t rfl)) (fun _ _ h => h) fun w hb hs hB hkd => ?_
     exact ⟨by rw [idxP_at hx14 hc16 hP], hb⟩
    ·refine wp_skip' (to_k0 (fun _ _ h => h) (hK7 _ _ _ _ _ ?_))
     clear hK7
     refine wp_reg ?_
     refine ol_r (r_add rfl rfl (by omega)) rfl ?_
     refine ol_r (r_move rfl) rfl ?_
     refine ol_nil (to_k0 (fun _ _ h => h) (hK4 (k + 1) _ _ ?_ ?_ (sub_cons rfl sub_nil) (sub_cons rfl (sub_cons rfl (sub_cons rfl sub_nil))) (by exact subH_nil) subH_nil))
     ·try dsimp only
      refine ⟨by omega, fun y hy => ?_⟩
      rw [take_succ_get hx14] at hy
      rcases List.mem_append.1 hy with h | h
      · exact hP y h
      · simp at h; subst h; exact hc16
     ·try dsimp only
      omega
   ·refine wp_exit' (to_k0 (fun _ _ h => h) (hK2 _ _ _ _ _ ?_))
    clear hK2
    refine wp_seq' fun K11 hK11 => ?_
    refine wp_reg ?_
    refine ol_r (r_assign rfl) rfl ?_
    refine ol_nil (to_k0 (fun _ _ h => h) (hK11 _ _ _ _ _ ?_))
    clear hK11
    refine hQ.ret (rvs1 (rv_t rfl)) (fun _ _ h => h) fun w hb hs hB hkd => ?_
    rw [List.take_of_length_le (by omega)] at hP
    exact ⟨by rw [idxP_no hP], hb⟩
theorem containsFunc_pt (a : Option Addr) (n c1 : Nat) (xs : List PtR) (g : FuncId) (cv : List Value) (p : PtR → Bool) (w : World) (hx : Rd encPoint w.heap.size w a n c1 xs) (hg : Callable Try.prog g)
    (hf : ∀ x w', x ∈ xs → Below w.heap.size w w' → w.heap.size ≤ w'.heap.size → Calls Try.prog g ([encPoint.val x] ++ cv).toArray w' fun e w2 => e = .returned (.bool (p x)) ∧ Below w'.heap.size w' w2) :
    Calls Try.prog 60 #[.slice a n c1, .func (.func g) #[] cv.toArray] w fun e w' => e = .returned (.bool (xs.any p)) ∧ Below w.heap.size w w' := by
  refine enterQ (N := 9) (C := fun _ => True) (H := []) (B := w.heap.size) (args := [_, _]) Try.func60 rfl rfl rfl (Nat.le_refl _) (Sat.nil _ _) fun Q hQ => ?_
  refine wp_seq' fun K1 hK1 => ?_
  refine wp_reg ?_
  refine ol_r (r_assign rfl) rfl ?_
  refine ol_nil (to_k0 (fun _ _ h => h) (hK1 _ _ _ _ _ ?_))
  clear hK1
  refine wp_seq' fun K2 hK2 => ?_
  refine wp_reg ?_
  refine ol_r (r_move rfl) rfl ?_
  refine ol_r (r_move rfl) rfl ?_
  refine ol_call rfl rfl cb86 rfl (fun w1 hb1 hs1 hB1 => Calls.mono (indexFunc_pt _ _ _ xs g cv p _ (hx.at hb1 hB1) hg (fun x w' hm h1 h2 => hf x w' hm ((hb1.trans (h1.mono hB1))) (Nat.le_trans hB1 h2))) ?_)
  rintro e w2 ⟨rfl, hb2⟩
  refine After.below rfl hb1 hs1 hB1 hb2 ?_
  clear hb2 hB1 hs1 hb1 w2 w1
  refine ol_r (r_geq rfl rfl) rfl ?_
  refine ol_r (r_assign rfl) rfl ?_
  refine ol_nil (to_k0 (fun _ _ h => h) (hK2 _ _ _ _ _ ?_))
  clear hK2
  refine hQ.ret (rvs1 (rv_t rfl)) (fun _ _ h => h) fun w hb hs hB hkd => ?_
  exact ⟨by rw [idxP_any], hb⟩
theorem grow_pt (n : Int) (w : World) (hn : 0 < n ∧ n ≤ 100000) :
    Calls Try.prog 87 #[.slice none 0 0, .int .i64 n] w fun e w' => ∃ b m k, e = .returned (.slice b m k) ∧ Fresh encPoint 62 w w' b m k [] := by
  refine enterQ (N := 27) (C := fun _ => True) (H := []) (B := w.heap.size) (args := [_, _]) Try.func87 rfl rfl rfl (Nat.le_refl _) (Sat.nil _ _) fun Q hQ => ?_
  refine wp_seq' fun K1 hK1 => ?_
  refine wp_reg ?_
  refine ol_r (r_assign rfl) rfl ?_
  refine ol_nil (to_k0 (fun _ _ h => h) (hK1 _ _ _ _ _ ?_))
  clear hK1
  refine wp_seq' fun K2 hK2 => ?_
  refine wp_seq' fun K3 hK3 => ?_
  refine wp_reg ?_
  refine ol_r (r_move rfl) rfl ?_
  refine ol_r (r_lss rfl rfl) rfl ?_
  refine ol_nil (to_k0 (fun _ _ h => h) (hK3 _ _ _ _ _ ?_))
  clear hK3
  refine wp_condD rfl (fun hc6 => ?_) (fun hc6 => ?_)
  ·exfalso
   omega
  ·refine wp_skip' (to_k0 (fun _ _ h => h) (hK2 _ _ _ _ _ ?_))
   clear hK2
   refine wp_seq' fun K4 hK4 => ?_
   refine wp_seq' fun K5 hK5 => ?_
   refine wp_reg ?_
   refine ol_r (r_move rfl) rfl ?_
   refine ol_r (r_move rfl) rfl ?_
   refine ol_r (r_capn rfl sl57) rfl ?_
   refine ol_r (r_move rfl) rfl ?_
   refine ol_r (r_len rfl sl57) rfl ?_
   refine ol_r (r_sub rfl rfl (by omega)) rfl ?_
   refine ol_r (r_sub rfl rfl (by omega)) rfl ?_
   refine ol_r (r_assign rfl) rfl ?_
   refine ol_nil (to_k0 (fun _ _ h => h) (hK5 _ _ _ _ _ ?_))
   clear hK5
   refine wp_seq' fun K6 hK6 => ?_
   refine wp_reg ?_
   refine ol_r (r_move rfl) rfl ?_
   refine ol_r (r_gtr rfl rfl) rfl ?_
   refine ol_nil (to_k0 (fun _ _ h => h) (hK6 _ _ _ _ _ ?_))
   clear hK6
   refine wp_condD rfl (fun hc16 => ?_) (fun hc16 => ?_)
   ·refine wp_reg ?_
    refine ol_r (r_move rfl) rfl ?_
    refine ol_r (r_move rfl) rfl ?_
    refine ol_r (r_capn rfl sl57) rfl ?_
    refine ol_r (v := .slice none 0 0) (r_sl (a := none) (n := 0) (cap := 0) (l := none) (h := some 0) rfl rfl rfl sl57 (by simp) (by omega)) rfl ?_
    refine ol_r (r_move rfl) rfl ?_
    refine ol_appendZ 22 rfl rfl rw57 Try.underlying3 (by omega) (by omega) rfl fun a22 c22 zs22 hc22 => ?_
    refine ol_r (r_move rfl) rfl ?_
    refine ol_r (r_len rfl sl57) rfl ?_
    refine ol_cutO (id := 22) (h := 0) rfl rfl rfl sl57 (by omega) hc22 rfl ?_
    refine ol_r (r_assign rfl) rfl ?_
    refine ol_nil (to_k0 (fun _ _ h => h) (hK4 _ _ _ _ _ ?_))
    clear hK4
    refine wp_seq' fun K7 hK7 => ?_
    refine wp_reg ?_
    refine ol_r (r_move rfl) rfl ?_
    refine ol_r (r_assign rfl) rfl ?_
    refine ol_nil (to_k0 (fun _ _ h => h) (hK7 _ _ _ _ _ ?_))
    clear hK7
    refine hQ.ret (rvs1 (rv_t rfl)) (fun _ _ h => h) fun w hb hs hB hkd => ?_
    exact ⟨_, _, _, rfl, hb, hs.ok 22 _ rfl⟩
   ·exfalso
    omega
theorem concat_pt (a b : Option Addr) (n m c1 c2 : Nat) (xs ys : List PtR) (sa : Option Addr) (w : World) (hx : Rd encPoint w.heap.size w a n c1 xs) (hy : Rd encPoint w.heap.size w b m c2 ys) (hs0 : Rd encSl w.heap.size w sa 2 2 [⟨a, n, c1⟩, ⟨b, m, c2⟩]) (hn : 0 < n ∧ n ≤ 300) (hm : 0 < m ∧ m ≤ 300) :
    Calls Try.prog 61 #[.slice sa 2 2] w fun e w' => ∃ b m k, e = .returned (.slice b m k) ∧ Fresh encPoint 62 w w' b m k (xs ++ ys) := by
  have hxl := hx.len
  have hyl := hy.len
  refine enterQ (N := 36) (C := fun _ => True) (H := []) (B := w.heap.size) (args := [_]) Try.func61 rfl rfl rfl (Nat.le_refl _) (Sat.nil _ _) fun Q hQ => ?_
  refine wp_seq' fun K1 hK1 => ?_
  refine wp_reg ?_
  refine ol_r (r_assign rfl) rfl ?_
  refine ol_nil (to_k0 (fun _ _ h => h) (hK1 _ _ _ _ _ ?_))
  clear hK1
  refine wp_seq' fun K2 hK2 => ?_
  refine wp_reg ?_
  refine ol_r (r_assign rfl) rfl ?_
  refine ol_nil (to_k0 (fun _ _ h => h) (hK2 _ _ _ _ _ ?_))
  clear hK2
  refine wp_seq' fun K3 hK3 => ?_
  refine wp_seq' fun K4 hK4 => ?_
  refine wp_reg ?_
  refine ol_r (r_move rfl) rfl ?_
  refine ol_r (r_len rfl sl127) rfl ?_
  refine ol_r (r_move rfl) rfl ?_
  refine ol_nil (to_k0 (fun _ _ h => h) (hK4 _ _ _ _ _ ?_))
  clear hK4
  refine wp_block' ?_
  refine wp_unroll 3 ?_
  refine kp_unroll fun K5 hK5 => ?_
  refine wp_seq' fun K6 hK6 => ?_
  refine wp_reg ?_
  refine ol_r (r_lss rfl rfl) rfl ?_
  refine ol_nil (to_k0 (fun _ _ h => h) (hK6 _ _ _ _ _ ?_))
  clear hK6
  refine wp_seq' fun K7 hK7 => ?_
  refine wp_condD rfl (fun hc12 => ?_) (fun hc12 => ?_)
  ·refine wp_skip' (to_k0 (fun _ _ h => h) (hK7 _ _ _ _ _ ?_))
   clear hK7
   refine wp_seq' fun K8 hK8 => ?_
   refine wp_block' ?_
   refine wp_seq' fun K9 hK9 => ?_
   refine wp_reg ?_
   refine ol_ixr hs0 rfl rfl sl127 (by omega) rfl fun x13 hx13 => ?_
   try simp only [Int.toNat_natCast] at hx13
   refine ol_r (r_ldw rfl (fun w1 hb1 hs1 hB1 => Rd.loads hs0 ty57 hx13 hb1)) rfl ?_
   refine ol_r (r_assign rfl) rfl ?_
   refine ol_nil (to_k0 (fun _ _ h => h) (hK9 _ _ _ _ _ ?_))
   clear hK9
   refine wp_seq' fun K10 hK10 => ?_
   refine wp_reg ?_
   obtain rfl : x13 = ⟨a, n, c1⟩ := Option.some.inj (hx13.symm.trans rfl)
   refine ol_r (r_move rfl) rfl ?_
   refine ol_r (r_move rfl) rfl ?_
   refine ol_r (r_len rfl sl57) rfl ?_
   try dsimp only
   refine ol_r (r_add rfl rfl (by omega)) rfl ?_
   refine ol_r (r_assign rfl) rfl ?_
   refine ol_nil (to_k0 (fun _ _ h => h) (hK10 _ _ _ _ _ ?_))
   clear hK10
   refine wp_seq' fun K11 hK11 => ?_
   refine wp_reg ?_
   refine ol_r (r_move rfl) rfl ?_
   refine ol_r (r_lss rfl rfl) rfl ?_
   refine ol_nil (to_k0 (fun _ _ h => h) (hK11 _ _ _ _ _ ?_))
   clear hK11
   refine wp_condD rfl (fun hc20 => ?_) (fun hc20 => ?_)
   ·exfalso
    omega
   ·refine wp_skip' (to_k0 (fun _ _ h => h) (hK8 _ _ _ _ _ ?_))
    clear hK8
    refine wp_reg ?_
    refine ol_r (r_add rfl rfl (by omega)) rfl ?_
    refine ol_r (r_move rfl) rfl ?_
    refine ol_nil (to_k0 (fun _ _ h => h) (hK5 _ _ ?_))
    clear hK5
    refine kp_unroll fun K12 hK12 => ?_
    refine wp_seq' fun K13 hK13 => ?_
    refine wp_reg ?_
    refine ol_r (r_lss rfl rfl) rfl ?_
    refine ol_nil (to_k0 (fun _ _ h => h) (hK13 _ _ _ _ _ ?_))
    clear hK13
    refine wp_seq' fun K14 hK14 => ?_
    refine wp_condD rfl (fun hc12 => ?_) (fun hc12 => ?_)
    ·refine wp_skip' (to_k0 (fun _ _ h => h) (hK14 _ _ _ _ _ ?_))
     clear hK14
     refine wp_seq' fun K15 hK15 => ?_
     refine wp_block' ?_
     refine wp_seq' fun K16 hK16 => ?_
     refine wp_reg ?_
     refine ol_ixr hs0 rfl rfl sl127 (by omega) rfl fun x13 hx13 => ?_
     try simp only [Int.toNat_natCast] at hx13
     refine ol_r (r_ldw rfl (fun w1 hb1 hs1 hB1 => Rd.loads hs0 ty57 hx13 hb1)) rfl ?_
     refine ol_r (r_assign rfl) rfl ?_
     refine ol_nil (to_k0 (fun _ _ h => h) (hK16 _ _ _ _ _ ?_))
     clear hK16
     refine wp_seq' fun K17 hK17 => ?_
     refine wp_reg ?_
     obtain rfl : x13 = ⟨b, m, c2⟩ := Option.some.inj (hx13.symm.trans rfl)
     refine ol_r (r_move rfl) rfl ?_
     refine ol_r (r_move rfl) rfl ?_
     refine ol_r (r_len rfl sl57) rfl ?_
     try dsimp only
     refine ol_r (r_add rfl rfl (by omega)) rfl ?_
     refine ol_r (r_assign rfl) rfl ?_
     refine ol_nil (to_k0 (fun _ _ h => h) (hK17 _ _ _ _ _ ?_))
     clear hK17
     refine wp_seq' fun K18 hK18 => ?_
     refine wp_reg ?_
     refine ol_r (r_move rfl) rfl ?_
     refine ol_r (r_lss rfl rfl) rfl ?_
     refine ol_nil (to_k0 (fun _ _ h => h) (hK18 _ _ _ _ _ ?_))
     clear hK18
     refine wp_condD rfl (fun hc20 => ?_) (fun hc20 => ?_)
     ·exfalso
      omega
     ·refine wp_skip' (to_k0 (fun _ _ h => h) (hK15 _ _ _ _ _ ?_))
      clear hK15
      refine wp_reg ?_
      refine ol_r (r_add rfl rfl (by omega)) rfl ?_
      refine ol_r (r_move rfl) rfl ?_
      refine ol_nil (to_k0 (fun _ _ h => h) (hK12 _ _ ?_))
      clear hK12
      refine kp_unroll fun K19 hK19 => ?_
      refine wp_seq' fun K20 hK20 => ?_
      refine wp_reg ?_
      refine ol_r (r_lss rfl rfl) rfl ?_
      refine ol_nil (to_k0 (fun _ _ h => h) (hK20 _ _ _ _ _ ?_))
      clear hK20
      refine wp_seq' fun K21 hK21 => ?_
      refine wp_condD rfl (fun hc12 => ?_) (fun hc12 => ?_)
      ·exfalso
       omega
      ·refine wp_exit' (to_k0 (fun _ _ h => h) (hK3 _ _ _ _ _ ?_))
       clear hK3
       refine wp_seq' fun K22 hK22 => ?_
       refine wp_reg ?_
       refine ol_r (r_move rfl) rfl ?_
       refine ol_call rfl rfl cb87 rfl (fun w1 hb1 hs1 hB1 => Calls.mono (grow_pt _ _ (by omega)) ?_)
       rintro e w2 ⟨a3024, n3024, c3024, rfl, hf3024⟩
       refine After.fresh (id := 3024) rfl hb1 hs1 hB1 hf3024 ?_
       have hl3024 := hf3024.len; clear hf3024 hB1 hs1 hb1 w2 w1
       refine ol_r (r_assign rfl) rfl ?_
       refine ol_nil (to_k0 (fun _ _ h => h) (hK22 _ _ _ _ _ ?_))
       clear hK22
       refine wp_seq' fun K23 hK23 => ?_
       refine wp_seq' fun K24 hK24 => ?_
       refine wp_reg ?_
       obtain rfl : n3024 = 0 := hl3024.symm
       refine ol_r (r_move rfl) rfl ?_
       refine ol_r (r_len rfl sl127) rfl ?_
       refine ol_r (r_move rfl) rfl ?_
       refine ol_nil (to_k0 (fun _ _ h => h) (hK24 _ _ _ _ _ ?_))
       clear hK24
       refine wp_block' ?_
       refine wp_unroll 3 ?_
       refine kp_unroll fun K25 hK25 => ?_
       refine wp_seq' fun K26 hK26 => ?_
       refine wp_reg ?_
       refine ol_r (r_lss rfl rfl) rfl ?_
       refine ol_nil (to_k0 (fun _ _ h => h) (hK26 _ _ _ _ _ ?_))
       clear hK26
       refine wp_seq' fun K27 hK27 => ?_
       refine wp_condD rfl (fun hc28 => ?_) (fun hc28 => ?_)
       ·refine wp_skip' (to_k0 (fun _ _ h => h) (hK27 _ _ _ _ _ ?_))
        clear hK27
        refine wp_seq' fun K28 hK28 => ?_
        refine wp_block' ?_
        refine wp_seq' fun K29 hK29 => ?_
        refine wp_reg ?_
        refine ol_ixr hs0 rfl rfl sl127 (by omega) rfl fun x29 hx29 => ?_
        try simp only [Int.toNat_natCast] at hx29
        refine ol_r (r_ldw rfl (fun w1 hb1 hs1 hB1 => Rd.loads hs0 ty57 hx29 hb1)) rfl ?_
        refine ol_r (r_assign rfl) rfl ?_
        refine ol_nil (to_k0 (fun _ _ h => h) (hK29 _ _ _ _ _ ?_))
        clear hK29
        refine wp_reg ?_
        obtain rfl : x29 = ⟨a, n, c1⟩ := Option.some.inj (hx29.symm.trans rfl)
        refine ol_r (r_move rfl) rfl ?_
        refine ol_r (r_move rfl) rfl ?_
        try dsimp only
        refine ol_append (id := 3024) (news := encPoint.enc xs) rfl rfl rfl rw57 (by rw [Enc.enc_len, hxl]) (encPoint.ones_enc xs) (fun w1 hb1 hs1 hB1 => ?_) (by dsimp only; omega) rfl fun a33 c33 => ?_
        · obtain ⟨p, hp⟩ := Option.isSome_iff_exists.1 (hx.isSome (by omega))
          exact ⟨p, hp, (hx.below hb1).flat hp⟩
        refine ol_r (r_assign rfl) rfl ?_
        refine ol_nil (to_k0 (fun _ _ h => h) (hK28 _ _ _ _ _ ?_))
        clear hK28
        refine wp_reg ?_
        refine ol_r (r_add rfl rfl (by omega)) rfl ?_
        refine ol_r (r_move rfl) rfl ?_
        refine ol_nil (to_k0 (fun _ _ h => h) (hK25 _ _ ?_))
        clear hK25
        refine kp_unroll fun K30 hK30 => ?_
        refine wp_seq' fun K31 hK31 => ?_
        refine wp_reg ?_
        refine ol_r (r_lss rfl rfl) rfl ?_
        refine ol_nil (to_k0 (fun _ _ h => h) (hK31 _ _ _ _ _ ?_))
        clear hK31
        refine wp_seq' fun K32 hK32 => ?_
        refine wp_condD rfl (fun hc28 => ?_) (fun hc28 => ?_)
        ·refine wp_skip' (to_k0 (fun _ _ h => h) (hK32 _ _ _ _ _ ?_))
         clear hK32
         refine wp_seq' fun K33 hK33 => ?_
         refine wp_block' ?_
         refine wp_seq' fun K34 hK34 => ?_
         refine wp_reg ?_
         refine ol_ixr hs0 rfl rfl sl127 (by omega) rfl fun x29 hx29 => ?_
         try simp only [Int.toNat_natCast] at hx29
         refine ol_r (r_ldw rfl (fun w1 hb1 hs1 hB1 => Rd.loads hs0 ty57 hx29 hb1)) rfl ?_
         refine ol_r (r_assign rfl) rfl ?_
         refine ol_nil (to_k0 (fun _ _ h => h) (hK34 _ _ _ _ _ ?_))
         clear hK34
         refine wp_reg ?_
         obtain rfl : x29 = ⟨b, m, c2⟩ := Option.some.inj (hx29.symm.trans rfl)
         refine ol_r (r_move rfl) rfl ?_
         refine ol_r (r_move rfl) rfl ?_
         try dsimp only
         refine ol_append (id := 3024) (news := encPoint.enc ys) rfl rfl rfl rw57 (by rw [Enc.enc_len, hyl]) (encPoint.ones_enc ys) (fun w1 hb1 hs1 hB1 => ?_) (by dsimp only; omega) rfl fun a33 c33 => ?_
         · obtain ⟨p, hp⟩ := Option.isSome_iff_exists.1 (hy.isSome (by omega))
           exact ⟨p, hp, (hy.below hb1).flat hp⟩
         refine ol_r (r_assign rfl) rfl ?_
         refine ol_nil (to_k0 (fun _ _ h => h) (hK33 _ _ _ _ _ ?_))
         clear hK33
         refine wp_reg ?_
         refine ol_r (r_add rfl rfl (by omega)) rfl ?_
         refine ol_r (r_move rfl) rfl ?_
         refine ol_nil (to_k0 (fun _ _ h => h) (hK30 _ _ ?_))
         clear hK30
         refine kp_unroll fun K35 hK35 => ?_
         refine wp_seq' fun K36 hK36 => ?_
         refine wp_reg ?_
         refine ol_r (r_lss rfl rfl) rfl ?_
         refine ol_nil (to_k0 (fun _ _ h => h) (hK36 _ _ _ _ _ ?_))
         clear hK36
         refine wp_seq' fun K37 hK37 => ?_
         refine wp_condD rfl (fun hc28 => ?_) (fun hc28 => ?_)
         ·exfalso
          omega
         ·refine wp_exit' (to_k0 (fun _ _ h => h) (hK23 _ _ _ _ _ ?_))
          clear hK23
          refine wp_seq' fun K38 hK38 => ?_
          refine wp_reg ?_
          refine ol_r (r_move rfl) rfl ?_
          refine ol_r (r_assign rfl) rfl ?_
          refine ol_nil (to_k0 (fun _ _ h => h) (hK38 _ _ _ _ _ ?_))
          clear hK38
          refine hQ.ret (rvs1 (rv_t rfl)) (fun _ _ h => h) fun w hb hs hB hkd => ?_
          exact ⟨_, _, _, rfl, hb, by rw [Enc.enc_append]; exact hs.ok 3024 _ rfl⟩
        ·exfalso
         omega
       ·exfalso
        omega
    ·exfalso
     omega
  ·exfalso
   omega
theorem apart_out (p : PtR) (w : World) : Calls Try.prog 62 #[encPoint.val p] w fun e w' => e = .returned (.bool (!ptR p)) ∧ Below w.heap.size w w' := by
  refine enterQ (N := 6) (C := fun _ => True) (H := []) (B := w.heap.size) (args := [_]) Try.func62 rfl rfl rfl (Nat.le_refl _) (Sat.nil _ _) fun Q hQ => ?_
  refine wp_seq' fun K1 hK1 => ?_
  refine wp_reg ?_
  refine ol_box 1 rfl rfl rfl fun b1 => ?_
  refine ol_r (r_assign rfl) rfl ?_
  refine ol_nil (to_k0 (fun _ _ h => h) (hK1 _ _ _ _ _ ?_))
  clear hK1
  refine wp_seq' fun K2 hK2 => ?_
  refine wp_reg ?_
  refine ol_r (r_lda (id := 1) (n := 2) rfl rfl rfl ag62) rfl ?_
  refine ol_call rfl rfl cb46 rfl (fun w1 hb1 hs1 hB1 => Calls.mono (match_isPlace _ _ _) ?_)
  rintro e w2 ⟨rfl, hb2⟩
  refine After.below rfl hb1 hs1 hB1 hb2 ?_
  clear hb2 hB1 hs1 hb1 w2 w1
  refine ol_r (r_not rfl) rfl ?_
  refine ol_r (r_assign rfl) rfl ?_
  refine ol_nil (to_k0 (fun _ _ h => h) (hK2 _ _ _ _ _ ?_))
  clear hK2
  refine hQ.ret (rvs1 (rv_t rfl)) (fun _ _ h => h) fun w hb hs hB hkd => ?_
  exact ⟨rfl, hb⟩
theorem sqd_bd {a b : Int} (ha : -100000000 ≤ a ∧ a ≤ 100000000) (hb : -100000000 ≤ b ∧ b ≤ 100000000) : 0 ≤ (a - b) * (a - b) ∧ (a - b) * (a - b) ≤ 40000000000000000 :=
  ⟨sq_nonneg _, (mul_ab (a := a - b) (b := a - b) (by omega) (by omega)).2⟩
theorem match_Apart (a b : Option Addr) (n m c1 c2 : Nat) (xs ys : List PtR) (w : World) (hx : Rd encPoint w.heap.size w a n c1 xs) (hy : Rd encPoint w.heap.size w b m c2 ys) :
    Calls Try.prog 27 #[.slice a n c1, .slice b m c2] w fun e w' => e = .returned (.tuple #[.int .i64 (apR xs ys).1, .int .i64 (apR xs ys).2]) ∧ Below w.heap.size w w' := by
  have hxl := hx.len
  have hyl := hy.len
  have hxf := hx.fit
  have hyf := hy.fit
  refine enterQ (N := 134) (C := fun _ => True) (H := []) (B := w.heap.size) (args := [_, _]) Try.func27 rfl rfl rfl (Nat.le_refl _) (Sat.nil _ _) fun Q hQ => ?_
  refine wp_seq' fun K1 hK1 => ?_
  refine wp_reg ?_
  refine ol_r (r_assign rfl) rfl ?_
  refine ol_r (r_assign rfl) rfl ?_
  refine ol_nil (to_k0 (fun _ _ h => h) (hK1 _ _ _ _ _ ?_))
  clear hK1
  refine wp_seq' fun K2 hK2 => ?_
  refine wp_block' ?_
  refine wp_seq' fun K3 hK3 => ?_
  refine wp_reg ?_
  refine ol_r (r_move rfl) rfl ?_
  refine ol_r (r_len rfl sl57) rfl ?_
  refine ol_r (r_eql rfl rfl) rfl ?_
  refine ol_r (r_move rfl) rfl ?_
  refine ol_split (d := 18) rfl (fun hs18 => ?_) (fun hs18 => ?_)
  ·have phs18 := hs18; try simp only [decide_eq_true_eq, decide_eq_false_iff_not, Bool.not_eq_true', Bool.not_eq_false', Bool.not_true, Bool.not_false] at phs18
   refine ol_s rfl rfl hs18 rfl ?_
   refine ol_s rfl rfl hs18 rfl ?_
   refine ol_s rfl rfl hs18 rfl ?_
   refine ol_r (r_pickT rfl hs18 rfl) rfl ?_
   refine ol_r (r_assign rfl) rfl ?_
   refine ol_nil (to_k0 (fun _ _ h => h) (hK3 _ _ _ _ _ ?_))
   clear hK3
   refine wp_condT rfl ?_
   refine wp_seq' fun K4 hK4 => ?_
   refine wp_reg ?_
   refine ol_r (r_assign rfl) rfl ?_
   refine ol_r (r_assign rfl) rfl ?_
   refine ol_nil (to_k0 (fun _ _ h => h) (hK4 _ _ _ _ _ ?_))
   clear hK4
   refine hQ.ret (rvs2 (rv_t rfl) (rv_t rfl)) (fun _ _ h => h) fun w hb hs hB hkd => ?_
   rw [apR_e (by rw [apE_13 (by omega)]; decide), apE_13 (by omega)]; exact ⟨rfl, hb⟩
  ·have phs18 := hs18; try simp only [decide_eq_true_eq, decide_eq_false_iff_not, Bool.not_eq_true', Bool.not_eq_false', Bool.not_true, Bool.not_false] at phs18
   refine ol_g rfl rfl hs18 ?_
   refine ol_r (r_move rfl) rfl ?_
   refine ol_g rfl rfl hs18 ?_
   refine ol_r (r_len rfl sl57) rfl ?_
   refine ol_g rfl rfl hs18 ?_
   refine ol_r (r_eql rfl rfl) rfl ?_
   refine ol_r (r_pickF rfl hs18 rfl) rfl ?_
   refine ol_r (r_assign rfl) rfl ?_
   refine ol_nil (to_k0 (fun _ _ h => h) (hK3 _ _ _ _ _ ?_))
   clear hK3
   refine wp_condD rfl (fun hc14 => ?_) (fun hc14 => ?_)
   ·refine wp_seq' fun K5 hK5 => ?_
    refine wp_reg ?_
    refine ol_r (r_assign rfl) rfl ?_
    refine ol_r (r_assign rfl) rfl ?_
    refine ol_nil (to_k0 (fun _ _ h => h) (hK5 _ _ _ _ _ ?_))
    clear hK5
    refine hQ.ret (rvs2 (rv_t rfl) (rv_t rfl)) (fun _ _ h => h) fun w hb hs hB hkd => ?_
    rw [apR_e (by rw [apE_13 (by omega)]; decide), apE_13 (by omega)]; exact ⟨rfl, hb⟩
   ·refine wp_seq' fun K6 hK6 => ?_
    refine wp_reg ?_
    refine ol_r (r_move rfl) rfl ?_
    refine ol_r (r_len rfl sl57) rfl ?_
    refine ol_r (r_gtr rfl rfl) rfl ?_
    refine ol_r (r_move rfl) rfl ?_
    refine ol_split (d := 27) rfl (fun hs27 => ?_) (fun hs27 => ?_)
    ·have phs27 := hs27; try simp only [decide_eq_true_eq, decide_eq_false_iff_not, Bool.not_eq_true', Bool.not_eq_false', Bool.not_true, Bool.not_false] at phs27
     refine ol_s rfl rfl hs27 rfl ?_
     refine ol_s rfl rfl hs27 rfl ?_
     refine ol_s rfl rfl hs27 rfl ?_
     refine ol_r (r_pickT rfl hs27 rfl) rfl ?_
     refine ol_r (r_assign rfl) rfl ?_
     refine ol_nil (to_k0 (fun _ _ h => h) (hK6 _ _ _ _ _ ?_))
     clear hK6
     refine wp_condT rfl ?_
     refine wp_seq' fun K7 hK7 => ?_
     refine wp_reg ?_
     refine ol_r (r_assign rfl) rfl ?_
     refine ol_r (r_assign rfl) rfl ?_
     refine ol_nil (to_k0 (fun _ _ h => h) (hK7 _ _ _ _ _ ?_))
     clear hK7
     refine hQ.ret (rvs2 (rv_t rfl) (rv_t rfl)) (fun _ _ h => h) fun w hb hs hB hkd => ?_
     rw [apR_e (by rw [apE_3 (by omega) (by omega)]; decide), apE_3 (by omega) (by omega)]; exact ⟨rfl, hb⟩
    ·have phs27 := hs27; try simp only [decide_eq_true_eq, decide_eq_false_iff_not, Bool.not_eq_true', Bool.not_eq_false', Bool.not_true, Bool.not_false] at phs27
     refine ol_g rfl rfl hs27 ?_
     refine ol_r (r_move rfl) rfl ?_
     refine ol_g rfl rfl hs27 ?_
     refine ol_r (r_len rfl sl57) rfl ?_
     refine ol_g rfl rfl hs27 ?_
     refine ol_r (r_gtr rfl rfl) rfl ?_
     refine ol_r (r_pickF rfl hs27 rfl) rfl ?_
     refine ol_r (r_assign rfl) rfl ?_
     refine ol_nil (to_k0 (fun _ _ h => h) (hK6 _ _ _ _ _ ?_))
     clear hK6
     refine wp_condD rfl (fun hc23 => ?_) (fun hc23 => ?_)
     ·refine wp_seq' fun K8 hK8 => ?_
      refine wp_reg ?_
      refine ol_r (r_assign rfl) rfl ?_
      refine ol_r (r_assign rfl) rfl ?_
      refine ol_nil (to_k0 (fun _ _ h => h) (hK8 _ _ _ _ _ ?_))
      clear hK8
      refine hQ.ret (rvs2 (rv_t rfl) (rv_t rfl)) (fun _ _ h => h) fun w hb hs hB hkd => ?_
      rw [apR_e (by rw [apE_3 (by omega) (by omega)]; decide), apE_3 (by omega) (by omega)]; exact ⟨rfl, hb⟩
     ·refine wp_seq' fun K9 hK9 => ?_
      refine wp_reg ?_
      refine ol_r (r_move rfl) rfl ?_
      refine ol_r (r_move rfl) rfl ?_
      refine ol_bsG (encSl.enc ([⟨a, n, c1⟩, ⟨b, m, c2⟩])) 35 rfl rw127 rfl rfl (fun _ => by kernel_rfl) rfl fun a35 => ?_
      refine ol_call rfl rfl cb61 rfl (fun w1 hb1 hs1 hB1 => Calls.mono (concat_pt _ _ _ _ _ _ xs ys _ _ (hx.at hb1 hB1) (hy.at hb1 hB1) (Sat.rd hs1 (E := encSl) (id := 35) rfl rfl) (by omega) (by omega)) ?_)
      rintro e w2 ⟨a36, n36, c36, rfl, hf36⟩
      refine After.fresh (id := 36) rfl hb1 hs1 hB1 hf36 ?_
      have hl36 := hf36.len; clear hf36 hB1 hs1 hb1 w2 w1
      refine ol_call rfl rfl cb60 rfl (fun w1 hb1 hs1 hB1 => Calls.mono (containsFunc_pt _ _ _ (xs ++ ys) _ [] (fun p => !ptR p) _ (Sat.rd hs1 (E := encPoint) (id := 36) rfl rfl) cb62 (fun x w' _ h1 h2 => apart_out x w')) ?_)
      rintro e w2 ⟨rfl, hb2⟩
      refine After.below rfl hb1 hs1 hB1 hb2 ?_
      clear hb2 hB1 hs1 hb1 w2 w1
      refine ol_r (r_assign rfl) rfl ?_
      refine ol_nil (to_k0 (fun _ _ h => h) (hK9 _ _ _ _ _ ?_))
      clear hK9
      refine wp_cond' rfl (fun hc32 => ?_) (fun hc32 => ?_)
      ·refine wp_seq' fun K10 hK10 => ?_
       refine wp_reg ?_
       refine ol_r (r_assign rfl) rfl ?_
       refine ol_r (r_assign rfl) rfl ?_
       refine ol_nil (to_k0 (fun _ _ h => h) (hK10 _ _ _ _ _ ?_))
       clear hK10
       refine hQ.ret (rvs2 (rv_t rfl) (rv_t rfl)) (fun _ _ h => h) fun w hb hs hB hkd => ?_
       rw [apR_e (by rw [apE_9 (by omega) (by omega) hc32]; decide), apE_9 (by omega) (by omega) hc32]; exact ⟨rfl, hb⟩
      ·refine wp_skip' (to_k0 (fun _ _ h => h) (hK2 _ _ _ _ _ ?_))
       clear hK2
       refine wp_seq' fun K11 hK11 => ?_
       refine wp_reg ?_
       have h0 := apE_0 (l := xs) (m := ys) (by omega) (by omega) hc32
       obtain ⟨_, _, hl1, hl2, hpx, hpy⟩ := apE_inv h0
       refine ol_r (r_move rfl) rfl ?_
       refine ol_r (r_len rfl sl57) rfl ?_
       refine ol_make encI (0) 40 rfl rfl rw47 z3 rfl rfl (by omega) rfl fun a40 => ?_
       refine ol_r (r_assign rfl) rfl ?_
       refine ol_nil (to_k0 (fun _ _ h => h) (hK11 _ _ _ _ _ ?_))
       clear hK11
       refine wp_seq' fun K12 hK12 => ?_
       refine wp_seq' fun K13 hK13 => ?_
       refine wp_reg ?_
       try simp only [Int.toNat_natCast]
       refine ol_r (r_move rfl) rfl ?_
       refine ol_r (r_len rfl sl57) rfl ?_
       refine ol_r (r_move rfl) rfl ?_
       refine ol_nil (to_k0 (fun _ _ h => h) (hK13 _ _ _ _ _ ?_))
       clear hK13
       refine wp_block' ?_
       apply wp_loopM (σ := Nat) (fun s => s ≤ n) (fun s => [(43, .int .i64 s)]) [(1, _), (4, _), (5, _), (6, _), (41, _), (42, _)] (fun s => [(40, .row a40 m m (encI.enc (tab m (apRow (dAt xs ys) s 0))) 3 1)]) [(35, _), (36, _)] (fun s => n - s) (0)
       ·try dsimp only
        exact Nat.zero_le _
       ·exact (sub_cons rfl sub_nil)
       ·exact (sub_cons rfl (sub_cons rfl (sub_cons rfl (sub_cons rfl (sub_cons rfl (sub_cons rfl sub_nil))))))
       ·exact (subH_row rfl (by (rw [apRow_start, ← tab_zero])) subH_nil)
       ·exact (subH_same rfl (subH_same rfl subH_nil))
       ·intro i hi
        intro K14 hK14
        refine wp_seq' fun K15 hK15 => ?_
        refine wp_reg ?_
        refine ol_r (r_lss rfl rfl) rfl ?_
        refine ol_nil (to_k0 (fun _ _ h => h) (hK15 _ _ _ _ _ ?_))
        clear hK15
        refine wp_seq' fun K16 hK16 => ?_
        refine wp_condD rfl (fun hc44 => ?_) (fun hc44 => ?_)
        ·refine wp_skip' (to_k0 (fun _ _ h => h) (hK16 _ _ _ _ _ ?_))
         clear hK16
         refine wp_seq' fun K17 hK17 => ?_
         refine wp_block' ?_
         refine wp_seq' fun K18 hK18 => ?_
         refine wp_reg ?_
         refine ol_r (r_move rfl) rfl ?_
         refine ol_ixr hx rfl rfl sl57 (by omega) rfl fun x46 hx46 => ?_
         try simp only [Int.toNat_natCast] at hx46
         refine ol_r (r_ldw rfl (fun w1 hb1 hs1 hB1 => Rd.loads hx ty62 hx46 hb1)) rfl ?_
         refine ol_alloc 8 z62 rfl fun b8 => ?_
         refine ol_r (r_assign rfl) rfl ?_
         refine ol_store (id := 8) rfl rfl rfl rfl sz62 rfl rfl (by first | decide | exact Nat.zero_lt_succ _ | simp) ?_
         refine ol_nil (to_k0 (fun _ _ h => h) (hK18 _ _ _ _ _ ?_))
         clear hK18
         refine wp_seq' fun K19 hK19 => ?_
         refine wp_reg ?_
         refine ol_r (r_assign rfl) rfl ?_
         refine ol_nil (to_k0 (fun _ _ h => h) (hK19 _ _ _ _ _ ?_))
         clear hK19
         refine wp_seq' fun K20 hK20 => ?_
         refine wp_reg ?_
         refine ol_r (r_move rfl) rfl ?_
         refine ol_r (r_len rfl sl57) rfl ?_
         refine ol_r (r_move rfl) rfl ?_
         refine ol_nil (to_k0 (fun _ _ h => h) (hK20 _ _ _ _ _ ?_))
         clear hK20
         refine wp_block' ?_
         apply wp_loopM (σ := Nat) (fun s => s ≤ m) (fun s => [(50, .int .i64 s), (9, .int .i64 (apBef (dAt xs ys) i s))]) [(1, _), (4, _), (5, _), (6, _), (7, _), (8, _), (41, _), (42, _), (43, _), (48, _), (49, _)] (fun s => [(40, .row a40 m m (encI.enc (tab m (apRow (dAt xs ys) i s))) 3 1)]) [(8, _), (35, _), (36, _)] (fun s => m - s) (0)
         ·try dsimp only
          exact Nat.zero_le _
         ·exact (sub_cons (by first | rfl | (first | rfl | (rw [apBef_zero]; rfl))) (sub_cons (by first | rfl | (first | rfl | (rw [apBef_zero]; rfl))) sub_nil))
         ·exact (sub_cons rfl (sub_cons rfl (sub_cons rfl (sub_cons rfl (sub_cons rfl (sub_cons rfl (sub_cons rfl (sub_cons rfl (sub_cons rfl (sub_cons rfl (sub_cons rfl sub_nil)))))))))))
         ·exact (subH_row rfl (by rfl) subH_nil)
         ·exact (subH_same rfl (subH_same rfl (subH_same rfl subH_nil)))
         ·intro k hk
          intro K21 hK21
          refine wp_seq' fun K22 hK22 => ?_
          refine wp_reg ?_
          refine ol_r (r_lss rfl rfl) rfl ?_
          refine ol_nil (to_k0 (fun _ _ h => h) (hK22 _ _ _ _ _ ?_))
          clear hK22
          refine wp_seq' fun K23 hK23 => ?_
          refine wp_condD rfl (fun hc51 => ?_) (fun hc51 => ?_)
          ·refine wp_skip' (to_k0 (fun _ _ h => h) (hK23 _ _ _ _ _ ?_))
           clear hK23
           refine wp_seq' fun K24 hK24 => ?_
           refine wp_block' ?_
           refine wp_seq' fun K25 hK25 => ?_
           refine wp_reg ?_
           refine ol_r (r_move rfl) rfl ?_
           refine ol_ixr hy rfl rfl sl57 (by omega) rfl fun x53 hx53 => ?_
           try simp only [Int.toNat_natCast] at hx53
           refine ol_r (r_ldw rfl (fun w1 hb1 hs1 hB1 => Rd.loads hy ty62 hx53 hb1)) rfl ?_
           refine ol_alloc 11 z62 rfl fun b11 => ?_
           refine ol_r (r_assign rfl) rfl ?_
           refine ol_store (id := 11) rfl rfl rfl rfl sz62 rfl rfl (by first | decide | exact Nat.zero_lt_succ _ | simp) ?_
           refine ol_nil (to_k0 (fun _ _ h => h) (hK25 _ _ _ _ _ ?_))
           clear hK25
           refine wp_seq' fun K26 hK26 => ?_
           refine wp_reg ?_
           have hD : dAt xs ys i k = (x46.x - x53.x) * (x46.x - x53.x) + (x46.y - x53.y) * (x46.y - x53.y) := dAt_eq hx46 hx53
           obtain ⟨b1, b2⟩ := ptR_iff.1 (hpx x46 (List.mem_of_getElem? hx46))
           obtain ⟨b3, b4⟩ := ptR_iff.1 (hpy x53 (List.mem_of_getElem? hx53))
           have m1 := sqd_bd b1 b3
           have m2 := sqd_bd b2 b4
           have htl := tab_len m (apRow (dAt xs ys) i k)
           refine ol_r (r_fa (o' := 0) rfl fl62_0 rfl) rfl ?_
           refine ol_r (r_ld (id := 8) rfl rfl rfl sc3) rfl ?_
           refine ol_r (r_fa (o' := 0) rfl fl62_0 rfl) rfl ?_
           refine ol_r (r_ld (id := 11) rfl rfl rfl sc3) rfl ?_
           refine ol_r (r_sub rfl rfl (by omega)) rfl ?_
           refine ol_r (r_fa (o' := 0) rfl fl62_0 rfl) rfl ?_
           refine ol_r (r_ld (id := 8) rfl rfl rfl sc3) rfl ?_
           refine ol_r (r_fa (o' := 0) rfl fl62_0 rfl) rfl ?_
           refine ol_r (r_ld (id := 11) rfl rfl rfl sc3) rfl ?_
           refine ol_r (r_sub rfl rfl (by omega)) rfl ?_
           refine ol_r (r_mul rfl rfl (by omega)) rfl ?_
           refine ol_r (r_fa (o' := 1) rfl fl62_1 rfl) rfl ?_
           refine ol_r (r_ld (id := 8) rfl rfl rfl sc3) rfl ?_
           refine ol_r (r_fa (o' := 1) rfl fl62_1 rfl) rfl ?_
           refine ol_r (r_ld (id := 11) rfl rfl rfl sc3) rfl ?_
           refine ol_r (r_sub rfl rfl (by omega)) rfl ?_
           refine ol_r (r_fa (o' := 1) rfl fl62_1 rfl) rfl ?_
           refine ol_r (r_ld (id := 8) rfl rfl rfl sc3) rfl ?_
           refine ol_r (r_fa (o' := 1) rfl fl62_1 rfl) rfl ?_
           refine ol_r (r_ld (id := 11) rfl rfl rfl sc3) rfl ?_
           refine ol_r (r_sub rfl rfl (by omega)) rfl ?_
           refine ol_r (r_mul rfl rfl (by omega)) rfl ?_
           refine ol_r (r_add rfl rfl (by omega)) rfl ?_
           refine ol_r (r_assign rfl) rfl ?_
           refine ol_nil (to_k0 (fun _ _ h => h) (hK26 _ _ _ _ _ ?_))
           clear hK26
           refine wp_seq' fun K27 hK27 => ?_
           refine wp_reg ?_
           refine ol_r (r_move rfl) rfl ?_
           refine ol_r (r_assign rfl) rfl ?_
           refine ol_nil (to_k0 (fun _ _ h => h) (hK27 _ _ _ _ _ ?_))
           clear hK27
           refine wp_seq' fun K28 hK28 => ?_
           refine wp_block' ?_
           refine wp_seq' fun K29 hK29 => ?_
           refine wp_reg ?_
           refine ol_r (r_move rfl) rfl ?_
           refine ol_r (r_gtr rfl rfl) rfl ?_
           refine ol_r (r_move rfl) rfl ?_
           refine ol_split (d := 82) rfl (fun hs82 => ?_) (fun hs82 => ?_)
           ·have phs82 := hs82; try simp only [decide_eq_true_eq, decide_eq_false_iff_not, Bool.not_eq_true', Bool.not_eq_false', Bool.not_true, Bool.not_false] at phs82
            refine ol_g rfl rfl hs82 ?_
            refine ol_r (r_move rfl) rfl ?_
            refine ol_g rfl rfl hs82 ?_
            refine ol_r (r_gtr rfl rfl) rfl ?_
            refine ol_r (r_pickT rfl hs82 rfl) rfl ?_
            refine ol_r (r_assign rfl) rfl ?_
            refine ol_nil (to_k0 (fun _ _ h => h) (hK29 _ _ _ _ _ ?_))
            clear hK29
            refine wp_condD rfl (fun hc79 => ?_) (fun hc79 => ?_)
            ·refine wp_regq (by kernel_rfl) (by kernel_rfl) ?_
             refine ql_r (r_move rfl) rfl ?_
             refine ql_r (r_move rfl) rfl ?_
             refine ql_r (r_move rfl) rfl ?_
             refine ql_r (r_move rfl) rfl ?_
             refine ql_ixo (id := 40) encI _ rfl rfl rfl rfl sl47 (by omega) (by omega) rfl fun x90 hx90 => ?_
             try simp only [Int.toNat_natCast] at hx90
             try simp only [Int.toNat_natCast] at hx90
             refine ql_r (r_ldw rfl (fun w1 hb1 hs1 hB1 => show Loads _ _ _ _ (.int .i64 x90) from ld_own (id := 40) hs1 rfl rfl ty3 hx90)) rfl ?_
             refine ql_r (r_move rfl) rfl ?_
             refine ql_r (r_move rfl) rfl ?_
             refine ql_r (r_sub rfl rfl (by omega)) rfl ?_
             refine ql_ixo (id := 40) encI _ rfl rfl rfl rfl sl47 (by omega) (by omega) rfl fun x95 hx95 => ?_
             try simp only [Int.toNat_natCast] at hx95
             try simp only [Int.toNat_natCast] at hx95
             refine ql_r (r_ldw rfl (fun w1 hb1 hs1 hB1 => show Loads _ _ _ _ (.int .i64 x95) from ld_own (id := 40) hs1 rfl rfl ty3 hx95)) rfl ?_
             refine ql_r (r_min3 rfl rfl rfl) rfl ?_
             refine ql_r (r_max rfl rfl) rfl ?_
             refine ql_r (r_assign rfl) rfl ?_
             refine ql_nil (to_k0 (fun _ _ h => h) (hK28 _ _ _ _ _ ?_))
             clear hK28
             refine wp_reg ?_
             refine ol_r (r_move rfl) rfl ?_
             refine ol_r (r_move rfl) rfl ?_
             refine ol_r (r_move rfl) rfl ?_
             refine ol_r (r_move rfl) rfl ?_
             refine ol_ixo (id := 40) encI _ rfl rfl rfl rfl sl47 (by omega) rfl fun x122 hx122 => ?_
             try simp only [Int.toNat_natCast] at hx122
             try simp only [Int.toNat_natCast] at hx122
             refine ol_r (r_ldw rfl (fun w1 hb1 hs1 hB1 => show Loads _ _ _ _ (.int .i64 x122) from ld_own (id := 40) hs1 rfl rfl ty3 hx122)) rfl ?_
             have h123 := (tab_get hx122).2
             rw [← apBef_succ] at h123
             subst h123
             refine ol_r (r_move rfl) rfl ?_
             refine ol_r (r_assign rfl) rfl ?_
             refine ol_ixo (id := 40) encI _ rfl rfl rfl rfl sl47 (by omega) rfl fun x125 hx125 => ?_
             try simp only [Int.toNat_natCast] at hx125
             try simp only [Int.toNat_natCast] at hx125
             refine ol_storeRow (id := 40) _ _ _ rfl rfl rfl rfl sz3 (by omega) ?_
             refine ol_nil (to_k0 (fun _ _ h => h) (hK24 _ _ _ _ _ ?_))
             clear hK24
             refine wp_reg ?_
             refine ol_r (r_add rfl rfl (by omega)) rfl ?_
             refine ol_r (r_move rfl) rfl ?_
             refine ol_nil (to_k0 (fun _ _ h => h) (hK21 (k + 1) _ _ ?_ ?_ (sub_cons rfl (sub_cons rfl sub_nil)) (sub_cons rfl (sub_cons rfl (sub_cons rfl (sub_cons rfl (sub_cons rfl (sub_cons rfl (sub_cons rfl (sub_cons rfl (sub_cons rfl (sub_cons rfl (sub_cons rfl sub_nil))))))))))) (by exact (subH_row rfl (by (first | exact congrArg encI.enc (apRow_1 hD hx90 hx95 (by omega) (by omega)) | exact congrArg encI.enc (apRow_2 hD hx105 (by omega) (by omega)) | exact congrArg encI.enc (apRow_3 hD hx115 (by omega) (by omega) (by omega)) | exact congrArg encI.enc (apRow_4 hD (by omega) (by omega) (by omega)))) subH_nil)) (subH_same rfl (subH_same rfl (subH_same rfl subH_nil)))))
             ·try dsimp only
              omega
             ·try dsimp only
              omega
            ·refine wp_seq' fun K30 hK30 => ?_
             refine wp_reg ?_
             refine ol_r (r_move rfl) rfl ?_
             refine ol_r (r_gtr rfl rfl) rfl ?_
             refine ol_r (r_assign rfl) rfl ?_
             refine ol_nil (to_k0 (fun _ _ h => h) (hK30 _ _ _ _ _ ?_))
             clear hK30
             refine wp_condD rfl (fun hc99 => ?_) (fun hc99 => ?_)
             ·refine wp_reg ?_
              refine ol_r (r_move rfl) rfl ?_
              refine ol_r (r_move rfl) rfl ?_
              refine ol_r (r_move rfl) rfl ?_
              refine ol_ixo (id := 40) encI _ rfl rfl rfl rfl sl47 (by omega) rfl fun x105 hx105 => ?_
              try simp only [Int.toNat_natCast] at hx105
              try simp only [Int.toNat_natCast] at hx105
              refine ol_r (r_ldw rfl (fun w1 hb1 hs1 hB1 => show Loads _ _ _ _ (.int .i64 x105) from ld_own (id := 40) hs1 rfl rfl ty3 hx105)) rfl ?_
              refine ol_r (r_max rfl rfl) rfl ?_
              refine ol_r (r_assign rfl) rfl ?_
              refine ol_nil (to_k0 (fun _ _ h => h) (hK28 _ _ _ _ _ ?_))
              clear hK28
              refine wp_reg ?_
              refine ol_r (r_move rfl) rfl ?_
              refine ol_r (r_move rfl) rfl ?_
              refine ol_r (r_move rfl) rfl ?_
              refine ol_r (r_move rfl) rfl ?_
              refine ol_ixo (id := 40) encI _ rfl rfl rfl rfl sl47 (by omega) rfl fun x122 hx122 => ?_
              try simp only [Int.toNat_natCast] at hx122
              try simp only [Int.toNat_natCast] at hx122
              refine ol_r (r_ldw rfl (fun w1 hb1 hs1 hB1 => show Loads _ _ _ _ (.int .i64 x122) from ld_own (id := 40) hs1 rfl rfl ty3 hx122)) rfl ?_
              have h123 := (tab_get hx122).2
              rw [← apBef_succ] at h123
              subst h123
              refine ol_r (r_move rfl) rfl ?_
              refine ol_r (r_assign rfl) rfl ?_
              refine ol_ixo (id := 40) encI _ rfl rfl rfl rfl sl47 (by omega) rfl fun x125 hx125 => ?_
              try simp only [Int.toNat_natCast] at hx125
              try simp only [Int.toNat_natCast] at hx125
              refine ol_storeRow (id := 40) _ _ _ rfl rfl rfl rfl sz3 (by omega) ?_
              refine ol_nil (to_k0 (fun _ _ h => h) (hK24 _ _ _ _ _ ?_))
              clear hK24
              refine wp_reg ?_
              refine ol_r (r_add rfl rfl (by omega)) rfl ?_
              refine ol_r (r_move rfl) rfl ?_
              refine ol_nil (to_k0 (fun _ _ h => h) (hK21 (k + 1) _ _ ?_ ?_ (sub_cons rfl (sub_cons rfl sub_nil)) (sub_cons rfl (sub_cons rfl (sub_cons rfl (sub_cons rfl (sub_cons rfl (sub_cons rfl (sub_cons rfl (sub_cons rfl (sub_cons rfl (sub_cons rfl (sub_cons rfl sub_nil))))))))))) (by exact (subH_row rfl (by (first | exact congrArg encI.enc (apRow_1 hD hx90 hx95 (by omega) (by omega)) | exact congrArg encI.enc (apRow_2 hD hx105 (by omega) (by omega)) | exact congrArg encI.enc (apRow_3 hD hx115 (by omega) (by omega) (by omega)) | exact congrArg encI.enc (apRow_4 hD (by omega) (by omega) (by omega)))) subH_nil)) (subH_same rfl (subH_same rfl (subH_same rfl subH_nil)))))
              ·try dsimp only
               omega
              ·try dsimp only
               omega
             ·refine wp_seq' fun K31 hK31 => ?_
              refine wp_reg ?_
              refine ol_r (r_move rfl) rfl ?_
              refine ol_r (r_gtr rfl rfl) rfl ?_
              refine ol_r (r_assign rfl) rfl ?_
              refine ol_nil (to_k0 (fun _ _ h => h) (hK31 _ _ _ _ _ ?_))
              clear hK31
              refine wp_condD rfl (fun hc108 => ?_) (fun hc108 => ?_)
              ·refine wp_reg ?_
               refine ol_r (r_move rfl) rfl ?_
               refine ol_r (r_move rfl) rfl ?_
               refine ol_r (r_move rfl) rfl ?_
               refine ol_r (r_sub rfl rfl (by omega)) rfl ?_
               refine ol_ixo (id := 40) encI _ rfl rfl rfl rfl sl47 (by omega) rfl fun x115 hx115 => ?_
               try simp only [Int.toNat_natCast] at hx115
               try simp only [Int.toNat_natCast] at hx115
               refine ol_r (r_ldw rfl (fun w1 hb1 hs1 hB1 => show Loads _ _ _ _ (.int .i64 x115) from ld_own (id := 40) hs1 rfl rfl ty3 hx115)) rfl ?_
               refine ol_r (r_max rfl rfl) rfl ?_
               refine ol_r (r_assign rfl) rfl ?_
               refine ol_nil (to_k0 (fun _ _ h => h) (hK28 _ _ _ _ _ ?_))
               clear hK28
               refine wp_reg ?_
               refine ol_r (r_move rfl) rfl ?_
               refine ol_r (r_move rfl) rfl ?_
               refine ol_r (r_move rfl) rfl ?_
               refine ol_r (r_move rfl) rfl ?_
               refine ol_ixo (id := 40) encI _ rfl rfl rfl rfl sl47 (by omega) rfl fun x122 hx122 => ?_
               try simp only [Int.toNat_natCast] at hx122
               try simp only [Int.toNat_natCast] at hx122
               refine ol_r (r_ldw rfl (fun w1 hb1 hs1 hB1 => show Loads _ _ _ _ (.int .i64 x122) from ld_own (id := 40) hs1 rfl rfl ty3 hx122)) rfl ?_
               have h123 := (tab_get hx122).2
               rw [← apBef_succ] at h123
               subst h123
               refine ol_r (r_move rfl) rfl ?_
               refine ol_r (r_assign rfl) rfl ?_
               refine ol_ixo (id := 40) encI _ rfl rfl rfl rfl sl47 (by omega) rfl fun x125 hx125 => ?_
               try simp only [Int.toNat_natCast] at hx125
               try simp only [Int.toNat_natCast] at hx125
               refine ol_storeRow (id := 40) _ _ _ rfl rfl rfl rfl sz3 (by omega) ?_
               refine ol_nil (to_k0 (fun _ _ h => h) (hK24 _ _ _ _ _ ?_))
               clear hK24
               refine wp_reg ?_
               refine ol_r (r_add rfl rfl (by omega)) rfl ?_
               refine ol_r (r_move rfl) rfl ?_
               refine ol_nil (to_k0 (fun _ _ h => h) (hK21 (k + 1) _ _ ?_ ?_ (sub_cons rfl (sub_cons rfl sub_nil)) (sub_cons rfl (sub_cons rfl (sub_cons rfl (sub_cons rfl (sub_cons rfl (sub_cons rfl (sub_cons rfl (sub_cons rfl (sub_cons rfl (sub_cons rfl (sub_cons rfl sub_nil))))))))))) (by exact (subH_row rfl (by (first | exact congrArg encI.enc (apRow_1 hD hx90 hx95 (by omega) (by omega)) | exact congrArg encI.enc (apRow_2 hD hx105 (by omega) (by omega)) | exact congrArg encI.enc (apRow_3 hD hx115 (by omega) (by omega) (by omega)) | exact congrArg encI.enc (apRow_4 hD (by omega) (by omega) (by omega)))) subH_nil)) (subH_same rfl (subH_same rfl (subH_same rfl subH_nil)))))
               ·try dsimp only
                omega
               ·try dsimp only
                omega
              ·refine wp_skip' (to_k0 (fun _ _ h => h) (hK28 _ _ _ _ _ ?_))
               clear hK28
               refine wp_reg ?_
               refine ol_r (r_move rfl) rfl ?_
               refine ol_r (r_move rfl) rfl ?_
               refine ol_r (r_move rfl) rfl ?_
               refine ol_r (r_move rfl) rfl ?_
               refine ol_ixo (id := 40) encI _ rfl rfl rfl rfl sl47 (by omega) rfl fun x122 hx122 => ?_
               try simp only [Int.toNat_natCast] at hx122
               try simp only [Int.toNat_natCast] at hx122
               refine ol_r (r_ldw rfl (fun w1 hb1 hs1 hB1 => show Loads _ _ _ _ (.int .i64 x122) from ld_own (id := 40) hs1 rfl rfl ty3 hx122)) rfl ?_
               have h123 := (tab_get hx122).2
               rw [← apBef_succ] at h123
               subst h123
               refine ol_r (r_move rfl) rfl ?_
               refine ol_r (r_assign rfl) rfl ?_
               refine ol_ixo (id := 40) encI _ rfl rfl rfl rfl sl47 (by omega) rfl fun x125 hx125 => ?_
               try simp only [Int.toNat_natCast] at hx125
               try simp only [Int.toNat_natCast] at hx125
               refine ol_storeRow (id := 40) _ _ _ rfl rfl rfl rfl sz3 (by omega) ?_
               refine ol_nil (to_k0 (fun _ _ h => h) (hK24 _ _ _ _ _ ?_))
               clear hK24
               refine wp_reg ?_
               refine ol_r (r_add rfl rfl (by omega)) rfl ?_
               refine ol_r (r_move rfl) rfl ?_
               refine ol_nil (to_k0 (fun _ _ h => h) (hK21 (k + 1) _ _ ?_ ?_ (sub_cons rfl (sub_cons rfl sub_nil)) (sub_cons rfl (sub_cons rfl (sub_cons rfl (sub_cons rfl (sub_cons rfl (sub_cons rfl (sub_cons rfl (sub_cons rfl (sub_cons rfl (sub_cons rfl (sub_cons rfl sub_nil))))))))))) (by exact (subH_row rfl (by (first | exact congrArg encI.enc (apRow_1 hD hx90 hx95 (by omega) (by omega)) | exact congrArg encI.enc (apRow_2 hD hx105 (by omega) (by omega)) | exact congrArg encI.enc (apRow_3 hD hx115 (by omega) (by omega) (by omega)) | exact congrArg encI.enc (apRow_4 hD (by omega) (by omega) (by omega)))) subH_nil)) (subH_same rfl (subH_same rfl (subH_same rfl subH_nil)))))
               ·try dsimp only
                omega
               ·try dsimp only
                omega
           ·have phs82 := hs82; try simp only [decide_eq_true_eq, decide_eq_false_iff_not, Bool.not_eq_true', Bool.not_eq_false', Bool.not_true, Bool.not_false] at phs82
            refine ol_s rfl rfl hs82 rfl ?_
            refine ol_s rfl rfl hs82 rfl ?_
            refine ol_r (r_pickF rfl hs82 rfl) rfl ?_
            refine ol_r (r_assign rfl) rfl ?_
            refine ol_nil (to_k0 (fun _ _ h => h) (hK29 _ _ _ _ _ ?_))
            clear hK29
            refine wp_condF rfl ?_
            refine wp_seq' fun K32 hK32 => ?_
            refine wp_reg ?_
            refine ol_r (r_move rfl) rfl ?_
            refine ol_r (r_gtr rfl rfl) rfl ?_
            refine ol_r (r_assign rfl) rfl ?_
            refine ol_nil (to_k0 (fun _ _ h => h) (hK32 _ _ _ _ _ ?_))
            clear hK32
            refine wp_condD rfl (fun hc99 => ?_) (fun hc99 => ?_)
            ·refine wp_reg ?_
             refine ol_r (r_move rfl) rfl ?_
             refine ol_r (r_move rfl) rfl ?_
             refine ol_r (r_move rfl) rfl ?_
             refine ol_ixo (id := 40) encI _ rfl rfl rfl rfl sl47 (by omega) rfl fun x105 hx105 => ?_
             try simp only [Int.toNat_natCast] at hx105
             try simp only [Int.toNat_natCast] at hx105
             refine ol_r (r_ldw rfl (fun w1 hb1 hs1 hB1 => show Loads _ _ _ _ (.int .i64 x105) from ld_own (id := 40) hs1 rfl rfl ty3 hx105)) rfl ?_
             refine ol_r (r_max rfl rfl) rfl ?_
             refine ol_r (r_assign rfl) rfl ?_
             refine ol_nil (to_k0 (fun _ _ h => h) (hK28 _ _ _ _ _ ?_))
             clear hK28
             refine wp_reg ?_
             refine ol_r (r_move rfl) rfl ?_
             refine ol_r (r_move rfl) rfl ?_
             refine ol_r (r_move rfl) rfl ?_
             refine ol_r (r_move rfl) rfl ?_
             refine ol_ixo (id := 40) encI _ rfl rfl rfl rfl sl47 (by omega) rfl fun x122 hx122 => ?_
             try simp only [Int.toNat_natCast] at hx122
             try simp only [Int.toNat_natCast] at hx122
             refine ol_r (r_ldw rfl (fun w1 hb1 hs1 hB1 => show Loads _ _ _ _ (.int .i64 x122) from ld_own (id := 40) hs1 rfl rfl ty3 hx122)) rfl ?_
             have h123 := (tab_get hx122).2
             rw [← apBef_succ] at h123
             subst h123
             refine ol_r (r_move rfl) rfl ?_
             refine ol_r (r_assign rfl) rfl ?_
             refine ol_ixo (id := 40) encI _ rfl rfl rfl rfl sl47 (by omega) rfl fun x125 hx125 => ?_
             try simp only [Int.toNat_natCast] at hx125
             try simp only [Int.toNat_natCast] at hx125
             refine ol_storeRow (id := 40) _ _ _ rfl rfl rfl rfl sz3 (by omega) ?_
             refine ol_nil (to_k0 (fun _ _ h => h) (hK24 _ _ _ _ _ ?_))
             clear hK24
             refine wp_reg ?_
             refine ol_r (r_add rfl rfl (by omega)) rfl ?_
             refine ol_r (r_move rfl) rfl ?_
             refine ol_nil (to_k0 (fun _ _ h => h) (hK21 (k + 1) _ _ ?_ ?_ (sub_cons rfl (sub_cons rfl sub_nil)) (sub_cons rfl (sub_cons rfl (sub_cons rfl (sub_cons rfl (sub_cons rfl (sub_cons rfl (sub_cons rfl (sub_cons rfl (sub_cons rfl (sub_cons rfl (sub_cons rfl sub_nil))))))))))) (by exact (subH_row rfl (by (first | exact congrArg encI.enc (apRow_1 hD hx90 hx95 (by omega) (by omega)) | exact congrArg encI.enc (apRow_2 hD hx105 (by omega) (by omega)) | exact congrArg encI.enc (apRow_3 hD hx115 (by omega) (by omega) (by omega)) | exact congrArg encI.enc (apRow_4 hD (by omega) (by omega) (by omega)))) subH_nil)) (subH_same rfl (subH_same rfl (subH_same rfl subH_nil)))))
             ·try dsimp only
              omega
             ·try dsimp only
              omega
            ·refine wp_seq' fun K33 hK33 => ?_
             refine wp_reg ?_
             refine ol_r (r_move rfl) rfl ?_
             refine ol_r (r_gtr rfl rfl) rfl ?_
             refine ol_r (r_assign rfl) rfl ?_
             refine ol_nil (to_k0 (fun _ _ h => h) (hK33 _ _ _ _ _ ?_))
             clear hK33
             refine wp_condD rfl (fun hc108 => ?_) (fun hc108 => ?_)
             ·refine wp_reg ?_
              refine ol_r (r_move rfl) rfl ?_
              refine ol_r (r_move rfl) rfl ?_
              refine ol_r (r_move rfl) rfl ?_
              refine ol_r (r_sub rfl rfl (by omega)) rfl ?_
              refine ol_ixo (id := 40) encI _ rfl rfl rfl rfl sl47 (by omega) rfl fun x115 hx115 => ?_
              try simp only [Int.toNat_natCast] at hx115
              try simp only [Int.toNat_natCast] at hx115
              refine ol_r (r_ldw rfl (fun w1 hb1 hs1 hB1 => show Loads _ _ _ _ (.int .i64 x115) from ld_own (id := 40) hs1 rfl rfl ty3 hx115)) rfl ?_
              refine ol_r (r_max rfl rfl) rfl ?_
              refine ol_r (r_assign rfl) rfl ?_
              refine ol_nil (to_k0 (fun _ _ h => h) (hK28 _ _ _ _ _ ?_))
              clear hK28
              refine wp_reg ?_
              refine ol_r (r_move rfl) rfl ?_
              refine ol_r (r_move rfl) rfl ?_
              refine ol_r (r_move rfl) rfl ?_
              refine ol_r (r_move rfl) rfl ?_
              refine ol_ixo (id := 40) encI _ rfl rfl rfl rfl sl47 (by omega) rfl fun x122 hx122 => ?_
              try simp only [Int.toNat_natCast] at hx122
              try simp only [Int.toNat_natCast] at hx122
              refine ol_r (r_ldw rfl (fun w1 hb1 hs1 hB1 => show Loads _ _ _ _ (.int .i64 x122) from ld_own (id := 40) hs1 rfl rfl ty3 hx122)) rfl ?_
              have h123 := (tab_get hx122).2
              rw [← apBef_succ] at h123
              subst h123
              refine ol_r (r_move rfl) rfl ?_
              refine ol_r (r_assign rfl) rfl ?_
              refine ol_ixo (id := 40) encI _ rfl rfl rfl rfl sl47 (by omega) rfl fun x125 hx125 => ?_
              try simp only [Int.toNat_natCast] at hx125
              try simp only [Int.toNat_natCast] at hx125
              refine ol_storeRow (id := 40) _ _ _ rfl rfl rfl rfl sz3 (by omega) ?_
              refine ol_nil (to_k0 (fun _ _ h => h) (hK24 _ _ _ _ _ ?_))
              clear hK24
              refine wp_reg ?_
              refine ol_r (r_add rfl rfl (by omega)) rfl ?_
              refine ol_r (r_move rfl) rfl ?_
              refine ol_nil (to_k0 (fun _ _ h => h) (hK21 (k + 1) _ _ ?_ ?_ (sub_cons rfl (sub_cons rfl sub_nil)) (sub_cons rfl (sub_cons rfl (sub_cons rfl (sub_cons rfl (sub_cons rfl (sub_cons rfl (sub_cons rfl (sub_cons rfl (sub_cons rfl (sub_cons rfl (sub_cons rfl sub_nil))))))))))) (by exact (subH_row rfl (by (first | exact congrArg encI.enc (apRow_1 hD hx90 hx95 (by omega) (by omega)) | exact congrArg encI.enc (apRow_2 hD hx105 (by omega) (by omega)) | exact congrArg encI.enc (apRow_3 hD hx115 (by omega) (by omega) (by omega)) | exact congrArg encI.enc (apRow_4 hD (by omega) (by omega) (by omega)))) subH_nil)) (subH_same rfl (subH_same rfl (subH_same rfl subH_nil)))))
              ·try dsimp only
               omega
              ·try dsimp only
               omega
             ·refine wp_skip' (to_k0 (fun _ _ h => h) (hK28 _ _ _ _ _ ?_))
              clear hK28
              refine wp_reg ?_
              refine ol_r (r_move rfl) rfl ?_
              refine ol_r (r_move rfl) rfl ?_
              refine ol_r (r_move rfl) rfl ?_
              refine ol_r (r_move rfl) rfl ?_
              refine ol_ixo (id := 40) encI _ rfl rfl rfl rfl sl47 (by omega) rfl fun x122 hx122 => ?_
              try simp only [Int.toNat_natCast] at hx122
              try simp only [Int.toNat_natCast] at hx122
              refine ol_r (r_ldw rfl (fun w1 hb1 hs1 hB1 => show Loads _ _ _ _ (.int .i64 x122) from ld_own (id := 40) hs1 rfl rfl ty3 hx122)) rfl ?_
              have h123 := (tab_get hx122).2
              rw [← apBef_succ] at h123
              subst h123
              refine ol_r (r_move rfl) rfl ?_
              refine ol_r (r_assign rfl) rfl ?_
              refine ol_ixo (id := 40) encI _ rfl rfl rfl rfl sl47 (by omega) rfl fun x125 hx125 => ?_
              try simp only [Int.toNat_natCast] at hx125
              try simp only [Int.toNat_natCast] at hx125
              refine ol_storeRow (id := 40) _ _ _ rfl rfl rfl rfl sz3 (by omega) ?_
              refine ol_nil (to_k0 (fun _ _ h => h) (hK24 _ _ _ _ _ ?_))
              clear hK24
              refine wp_reg ?_
              refine ol_r (r_add rfl rfl (by omega)) rfl ?_
              refine ol_r (r_move rfl) rfl ?_
              refine ol_nil (to_k0 (fun _ _ h => h) (hK21 (k + 1) _ _ ?_ ?_ (sub_cons rfl (sub_cons rfl sub_nil)) (sub_cons rfl (sub_cons rfl (sub_cons rfl (sub_cons rfl (sub_cons rfl (sub_cons rfl (sub_cons rfl (sub_cons rfl (sub_cons rfl (sub_cons rfl (sub_cons rfl sub_nil))))))))))) (by exact (subH_row rfl (by (first | exact congrArg encI.enc (apRow_1 hD hx90 hx95 (by omega) (by omega)) | exact congrArg encI.enc (apRow_2 hD hx105 (by omega) (by omega)) | exact congrArg encI.enc (apRow_3 hD hx115 (by omega) (by omega) (by omega)) | exact congrArg encI.enc (apRow_4 hD (by omega) (by omega) (by omega)))) subH_nil)) (subH_same rfl (subH_same rfl (subH_same rfl subH_nil)))))
              ·try dsimp only
               omega
              ·try dsimp only
               omega
          ·refine wp_exit' (to_k0 (fun _ _ h => h) (hK17 _ _ _ _ _ ?_))
           clear hK17
           refine wp_reg ?_
           refine ol_r (r_add rfl rfl (by omega)) rfl ?_
           refine ol_r (r_move rfl) rfl ?_
           refine ol_nil (to_k0 (fun _ _ h => h) (hK14 (i + 1) _ _ ?_ ?_ (sub_cons rfl sub_nil) (sub_cons rfl (sub_cons rfl (sub_cons rfl (sub_cons rfl (sub_cons rfl (sub_cons rfl sub_nil)))))) (by exact (subH_row rfl (by (exact congrArg encI.enc (apRow_all (by omega)))) subH_nil)) (subH_same rfl (subH_same rfl subH_nil))))
           ·try dsimp only
            omega
           ·try dsimp only
            omega
        ·refine wp_exit' (to_k0 (fun _ _ h => h) (hK12 _ _ _ _ _ ?_))
         clear hK12
         refine wp_seq' fun K34 hK34 => ?_
         refine wp_reg ?_
         obtain rfl : i = n := by omega
         refine ol_r (r_move rfl) rfl ?_
         refine ol_r (r_move rfl) rfl ?_
         refine ol_r (r_len rfl sl57) rfl ?_
         refine ol_r (r_sub rfl rfl (by omega)) rfl ?_
         refine ol_ixo (id := 40) encI _ rfl rfl rfl rfl sl47 (by omega) rfl fun x132 hx132 => ?_
         try simp only [Int.toNat_natCast] at hx132
         try simp only [Int.toNat_natCast] at hx132
         refine ol_r (r_ldw rfl (fun w1 hb1 hs1 hB1 => show Loads _ _ _ _ (.int .i64 x132) from ld_own (id := 40) hs1 rfl rfl ty3 hx132)) rfl ?_
         refine ol_r (r_assign rfl) rfl ?_
         refine ol_r (r_assign rfl) rfl ?_
         refine ol_nil (to_k0 (fun _ _ h => h) (hK34 _ _ _ _ _ ?_))
         clear hK34
         refine hQ.ret (rvs2 (rv_t rfl) (rv_t rfl)) (fun _ _ h => h) fun w hb hs hB hkd => ?_
         have h133 := (tab_get hx132).2
         have h134 : x132 = apV xs ys := by
           rw [h133, show ((m : Int) - 1).toNat = m - 1 by omega]
           unfold apRow
           rw [if_neg (by omega), if_neg (by omega), ← hxl, ← hyl]; rfl
         rw [apR_0 h0, h134]
         exact ⟨rfl, hb⟩
theorem ref5_square (a : Int) (w : World) (h : -200000000 ≤ a ∧ a ≤ 200000000) : Calls Try.prog 68 #[.int .i64 a] w fun e w' => e = .returned (.int .i64 (a * a)) ∧ Below w.heap.size w w' := by
  have m := mul_ab h h
  refine enterQ (N := 6) (C := fun _ => True) (H := []) (B := w.heap.size) (args := [_]) Try.func68 rfl rfl rfl (Nat.le_refl _) (Sat.nil _ _) fun Q hQ => ?_
  refine wp_seq' fun K1 hK1 => ?_
  refine wp_reg ?_
  refine ol_r (r_assign rfl) rfl ?_
  refine ol_nil (to_k0 (fun _ _ h => h) (hK1 _ _ _ _ _ ?_))
  clear hK1
  refine wp_seq' fun K2 hK2 => ?_
  refine wp_reg ?_
  refine ol_r (r_move rfl) rfl ?_
  refine ol_r (r_move rfl) rfl ?_
  refine ol_r (r_mul rfl rfl (by omega)) rfl ?_
  refine ol_r (r_assign rfl) rfl ?_
  refine ol_nil (to_k0 (fun _ _ h => h) (hK2 _ _ _ _ _ ?_))
  clear hK2
  refine hQ.ret (rvs1 (rv_t rfl)) (fun _ _ h => h) fun w hb hs hB hkd => ?_
  exact ⟨rfl, hb⟩
theorem ref5_Apart (a b : Option Addr) (n m c1 c2 : Nat) (xs ys : List PtR) (w : World) (hx : Rd encPoint w.heap.size w a n c1 xs) (hy : Rd encPoint w.heap.size w b m c2 ys) :
    Calls Try.prog 33 #[.slice a n c1, .slice b m c2] w fun e w' => e = .returned (.tuple #[.int .i64 (apR xs ys).1, .int .i64 (apR xs ys).2]) ∧ Below w.heap.size w w' := by
  have hxl := hx.len
  have hyl := hy.len
  have hxf := hx.fit
  have hyf := hy.fit
  refine enterQ (N := 130) (C := fun _ => True) (H := []) (B := w.heap.size) (args := [_, _]) Try.func33 rfl rfl rfl (Nat.le_refl _) (Sat.nil _ _) fun Q hQ => ?_
  refine wp_seq' fun K1 hK1 => ?_
  refine wp_reg ?_
  refine ol_r (r_assign rfl) rfl ?_
  refine ol_r (r_assign rfl) rfl ?_
  refine ol_nil (to_k0 (fun _ _ h => h) (hK1 _ _ _ _ _ ?_))
  clear hK1
  refine wp_seq' fun K2 hK2 => ?_
  refine wp_seq' fun K3 hK3 => ?_
  refine wp_reg ?_
  refine ol_r (r_move rfl) rfl ?_
  refine ol_r (r_len rfl sl57) rfl ?_
  refine ol_r (r_eql rfl rfl) rfl ?_
  refine ol_r (r_move rfl) rfl ?_
  refine ol_split (d := 20) rfl (fun hs20 => ?_) (fun hs20 => ?_)
  ·have phs20 := hs20; try simp only [decide_eq_true_eq, decide_eq_false_iff_not, Bool.not_eq_true', Bool.not_eq_false', Bool.not_true, Bool.not_false] at phs20
   refine ol_s rfl rfl hs20 rfl ?_
   refine ol_s rfl rfl hs20 rfl ?_
   refine ol_s rfl rfl hs20 rfl ?_
   refine ol_r (r_pickT rfl hs20 rfl) rfl ?_
   refine ol_nil (to_k0 (fun _ _ h => h) (hK3 _ _ _ _ _ ?_))
   clear hK3
   refine wp_condT rfl ?_
   refine wp_seq' fun K4 hK4 => ?_
   refine wp_reg ?_
   refine ol_r (r_assign rfl) rfl ?_
   refine ol_r (r_assign rfl) rfl ?_
   refine ol_nil (to_k0 (fun _ _ h => h) (hK4 _ _ _ _ _ ?_))
   clear hK4
   refine hQ.ret (rvs2 (rv_t rfl) (rv_t rfl)) (fun _ _ h => h) fun w hb hs hB hkd => ?_
   rw [apR_e (by rw [apE_13 (by omega)]; decide), apE_13 (by omega)]; exact ⟨rfl, hb⟩
  ·have phs20 := hs20; try simp only [decide_eq_true_eq, decide_eq_false_iff_not, Bool.not_eq_true', Bool.not_eq_false', Bool.not_true, Bool.not_false] at phs20
   refine ol_g rfl rfl hs20 ?_
   refine ol_r (r_move rfl) rfl ?_
   refine ol_g rfl rfl hs20 ?_
   refine ol_r (r_len rfl sl57) rfl ?_
   refine ol_g rfl rfl hs20 ?_
   refine ol_r (r_eql rfl rfl) rfl ?_
   refine ol_r (r_pickF rfl hs20 rfl) rfl ?_
   refine ol_nil (to_k0 (fun _ _ h => h) (hK3 _ _ _ _ _ ?_))
   clear hK3
   refine wp_condD rfl (fun hc24 => ?_) (fun hc24 => ?_)
   ·refine wp_seq' fun K5 hK5 => ?_
    refine wp_reg ?_
    refine ol_r (r_assign rfl) rfl ?_
    refine ol_r (r_assign rfl) rfl ?_
    refine ol_nil (to_k0 (fun _ _ h => h) (hK5 _ _ _ _ _ ?_))
    clear hK5
    refine hQ.ret (rvs2 (rv_t rfl) (rv_t rfl)) (fun _ _ h => h) fun w hb hs hB hkd => ?_
    rw [apR_e (by rw [apE_13 (by omega)]; decide), apE_13 (by omega)]; exact ⟨rfl, hb⟩
   ·refine wp_skip' (to_k0 (fun _ _ h => h) (hK2 _ _ _ _ _ ?_))
    clear hK2
    refine wp_seq' fun K6 hK6 => ?_
    refine wp_seq' fun K7 hK7 => ?_
    refine wp_reg ?_
    refine ol_r (r_move rfl) rfl ?_
    refine ol_r (r_len rfl sl57) rfl ?_
    refine ol_r (r_gtr rfl rfl) rfl ?_
    refine ol_r (r_move rfl) rfl ?_
    refine ol_split (d := 28) rfl (fun hs28 => ?_) (fun hs28 => ?_)
    ·have phs28 := hs28; try simp only [decide_eq_true_eq, decide_eq_false_iff_not, Bool.not_eq_true', Bool.not_eq_false', Bool.not_true, Bool.not_false] at phs28
     refine ol_s rfl rfl hs28 rfl ?_
     refine ol_s rfl rfl hs28 rfl ?_
     refine ol_s rfl rfl hs28 rfl ?_
     refine ol_r (r_pickT rfl hs28 rfl) rfl ?_
     refine ol_nil (to_k0 (fun _ _ h => h) (hK7 _ _ _ _ _ ?_))
     clear hK7
     refine wp_condT rfl ?_
     refine wp_seq' fun K8 hK8 => ?_
     refine wp_reg ?_
     refine ol_r (r_assign rfl) rfl ?_
     refine ol_r (r_assign rfl) rfl ?_
     refine ol_nil (to_k0 (fun _ _ h => h) (hK8 _ _ _ _ _ ?_))
     clear hK8
     refine hQ.ret (rvs2 (rv_t rfl) (rv_t rfl)) (fun _ _ h => h) fun w hb hs hB hkd => ?_
     rw [apR_e (by rw [apE_3 (by omega) (by omega)]; decide), apE_3 (by omega) (by omega)]; exact ⟨rfl, hb⟩
    ·have phs28 := hs28; try simp only [decide_eq_true_eq, decide_eq_false_iff_not, Bool.not_eq_true', Bool.not_eq_false', Bool.not_true, Bool.not_false] at phs28
     refine ol_g rfl rfl hs28 ?_
     refine ol_r (r_move rfl) rfl ?_
     refine ol_g rfl rfl hs28 ?_
     refine ol_r (r_len rfl sl57) rfl ?_
     refine ol_g rfl rfl hs28 ?_
     refine ol_r (r_gtr rfl rfl) rfl ?_
     refine ol_r (r_pickF rfl hs28 rfl) rfl ?_
     refine ol_nil (to_k0 (fun _ _ h => h) (hK7 _ _ _ _ _ ?_))
     clear hK7
     refine wp_condD rfl (fun hc32 => ?_) (fun hc32 => ?_)
     ·refine wp_seq' fun K9 hK9 => ?_
      refine wp_reg ?_
      refine ol_r (r_assign rfl) rfl ?_
      refine ol_r (r_assign rfl) rfl ?_
      refine ol_nil (to_k0 (fun _ _ h => h) (hK9 _ _ _ _ _ ?_))
      clear hK9
      refine hQ.ret (rvs2 (rv_t rfl) (rv_t rfl)) (fun _ _ h => h) fun w hb hs hB hkd => ?_
      rw [apR_e (by rw [apE_3 (by omega) (by omega)]; decide), apE_3 (by omega) (by omega)]; exact ⟨rfl, hb⟩
     ·refine wp_skip' (to_k0 (fun _ _ h => h) (hK6 _ _ _ _ _ ?_))
      clear hK6
      refine wp_seq' fun K10 hK10 => ?_
      refine wp_seq' fun K11 hK11 => ?_
      refine wp_reg ?_
      refine ol_r (r_move rfl) rfl ?_
      refine ol_r (r_len rfl sl57) rfl ?_
      refine ol_r (r_move rfl) rfl ?_
      refine ol_nil (to_k0 (fun _ _ h => h) (hK11 _ _ _ _ _ ?_))
      clear hK11
      refine wp_block' ?_
      apply wp_loopM (σ := Nat) (fun s => s ≤ n ∧ ∀ y ∈ xs.take s, ptR y = true) (fun s => [(35, .int .i64 s)]) [(0, _), (1, _), (33, _), (34, _)] (fun s => []) [] (fun s => n - s) (0)
      ·try dsimp only
       simp
      ·exact (sub_cons rfl sub_nil)
      ·exact (sub_cons rfl (sub_cons rfl (sub_cons rfl (sub_cons rfl sub_nil))))
      ·exact subH_nil
      ·exact subH_nil
      ·rintro i ⟨hi, hP⟩
       intro K12 hK12
       refine wp_seq' fun K13 hK13 => ?_
       refine wp_reg ?_
       refine ol_r (r_lss rfl rfl) rfl ?_
       refine ol_nil (to_k0 (fun _ _ h => h) (hK13 _ _ _ _ _ ?_))
       clear hK13
       refine wp_seq' fun K14 hK14 => ?_
       refine wp_condD rfl (fun hc36 => ?_) (fun hc36 => ?_)
       ·refine wp_skip' (to_k0 (fun _ _ h => h) (hK14 _ _ _ _ _ ?_))
        clear hK14
        refine wp_seq' fun K15 hK15 => ?_
        refine wp_block' ?_
        refine wp_seq' fun K16 hK16 => ?_
        refine wp_reg ?_
        refine ol_ixr hx rfl rfl sl57 (by omega) rfl fun x37 hx37 => ?_
        try simp only [Int.toNat_natCast] at hx37
        refine ol_r (r_ldw rfl (fun w1 hb1 hs1 hB1 => Rd.loads hx ty62 hx37 hb1)) rfl ?_
        refine ol_alloc 7 z62 rfl fun b7 => ?_
        refine ol_store (id := 7) rfl rfl rfl rfl sz62 rfl rfl (by first | decide | exact Nat.zero_lt_succ _ | simp) ?_
        refine ol_nil (to_k0 (fun _ _ h => h) (hK16 _ _ _ _ _ ?_))
        clear hK16
        refine wp_seq' fun K17 hK17 => ?_
        refine wp_reg ?_
        refine ol_r (r_lda (id := 7) (n := 2) rfl rfl rfl ag62) rfl ?_
        refine ol_call rfl rfl cb49 rfl (fun w1 hb1 hs1 hB1 => Calls.mono (ref5_isPoint _ _ _) ?_)
        rintro e w2 ⟨rfl, hb2⟩
        refine After.below rfl hb1 hs1 hB1 hb2 ?_
        clear hb2 hB1 hs1 hb1 w2 w1
        refine ol_r (r_not rfl) rfl ?_
        refine ol_nil (to_k0 (fun _ _ h => h) (hK17 _ _ _ _ _ ?_))
        clear hK17
        refine wp_condNB rfl (fun hc41 => ?_) (fun hc41 => ?_)
        ·refine wp_seq' fun K18 hK18 => ?_
         refine wp_reg ?_
         refine ol_r (r_assign rfl) rfl ?_
         refine ol_r (r_assign rfl) rfl ?_
         refine ol_nil (to_k0 (fun _ _ h => h) (hK18 _ _ _ _ _ ?_))
         clear hK18
         refine hQ.ret (rvs2 (rv_t rfl) (rv_t rfl)) (fun _ _ h => h) fun w hb hs hB hkd => ?_
         have h9 := apE_9 (l := xs) (m := ys) (by omega) (by omega) (by rw [List.any_append, anyL hx37 hc41]; rfl)
         rw [apR_e (by rw [h9]; decide), h9]; exact ⟨rfl, hb⟩
        ·refine wp_skip' (to_k0 (fun _ _ h => h) (hK15 _ _ _ _ _ ?_))
         clear hK15
         refine wp_reg ?_
         refine ol_r (r_add rfl rfl (by omega)) rfl ?_
         refine ol_r (r_move rfl) rfl ?_
         refine ol_nil (to_k0 (fun _ _ h => h) (hK12 (i + 1) _ _ ?_ ?_ (sub_cons rfl sub_nil) (sub_cons rfl (sub_cons rfl (sub_cons rfl (sub_cons rfl sub_nil)))) (by exact subH_nil) subH_nil))
         ·try dsimp only
          exact ⟨by omega, allL hx37 hP hc41⟩
         ·try dsimp only
          omega
       ·refine wp_exit' (to_k0 (fun _ _ h => h) (hK10 _ _ _ _ _ ?_))
        clear hK10
        refine wp_seq' fun K19 hK19 => ?_
        refine wp_seq' fun K20 hK20 => ?_
        refine wp_reg ?_
        refine ol_r (r_move rfl) rfl ?_
        refine ol_r (r_len rfl sl57) rfl ?_
        refine ol_r (r_move rfl) rfl ?_
        refine ol_nil (to_k0 (fun _ _ h => h) (hK20 _ _ _ _ _ ?_))
        clear hK20
        refine wp_block' ?_
        apply wp_loopM (σ := Nat) (fun s => s ≤ m ∧ ∀ y ∈ ys.take s, ptR y = true) (fun s => [(45, .int .i64 s)]) [(0, _), (1, _), (43, _), (44, _)] (fun s => []) [] (fun s => m - s) (0)
        ·try dsimp only
         simp
        ·exact (sub_cons rfl sub_nil)
        ·exact (sub_cons rfl (sub_cons rfl (sub_cons rfl (sub_cons rfl sub_nil))))
        ·exact subH_nil
        ·exact subH_nil
        ·rintro k ⟨hk, hR⟩
         intro K21 hK21
         refine wp_seq' fun K22 hK22 => ?_
         refine wp_reg ?_
         refine ol_r (r_lss rfl rfl) rfl ?_
         refine ol_nil (to_k0 (fun _ _ h => h) (hK22 _ _ _ _ _ ?_))
         clear hK22
         refine wp_seq' fun K23 hK23 => ?_
         refine wp_condD rfl (fun hc46 => ?_) (fun hc46 => ?_)
         ·refine wp_skip' (to_k0 (fun _ _ h => h) (hK23 _ _ _ _ _ ?_))
          clear hK23
          refine wp_seq' fun K24 hK24 => ?_
          refine wp_block' ?_
          refine wp_seq' fun K25 hK25 => ?_
          refine wp_reg ?_
          refine ol_ixr hy rfl rfl sl57 (by omega) rfl fun x47 hx47 => ?_
          try simp only [Int.toNat_natCast] at hx47
          refine ol_r (r_ldw rfl (fun w1 hb1 hs1 hB1 => Rd.loads hy ty62 hx47 hb1)) rfl ?_
          refine ol_alloc 9 z62 rfl fun b9 => ?_
          refine ol_store (id := 9) rfl rfl rfl rfl sz62 rfl rfl (by first | decide | exact Nat.zero_lt_succ _ | simp) ?_
          refine ol_nil (to_k0 (fun _ _ h => h) (hK25 _ _ _ _ _ ?_))
          clear hK25
          refine wp_seq' fun K26 hK26 => ?_
          refine wp_reg ?_
          refine ol_r (r_lda (id := 9) (n := 2) rfl rfl rfl ag62) rfl ?_
          refine ol_call rfl rfl cb49 rfl (fun w1 hb1 hs1 hB1 => Calls.mono (ref5_isPoint _ _ _) ?_)
          rintro e w2 ⟨rfl, hb2⟩
          refine After.below rfl hb1 hs1 hB1 hb2 ?_
          clear hb2 hB1 hs1 hb1 w2 w1
          refine ol_r (r_not rfl) rfl ?_
          refine ol_nil (to_k0 (fun _ _ h => h) (hK26 _ _ _ _ _ ?_))
          clear hK26
          refine wp_condNB rfl (fun hc51 => ?_) (fun hc51 => ?_)
          ·refine wp_seq' fun K27 hK27 => ?_
           refine wp_reg ?_
           refine ol_r (r_assign rfl) rfl ?_
           refine ol_r (r_assign rfl) rfl ?_
           refine ol_nil (to_k0 (fun _ _ h => h) (hK27 _ _ _ _ _ ?_))
           clear hK27
           refine hQ.ret (rvs2 (rv_t rfl) (rv_t rfl)) (fun _ _ h => h) fun w hb hs hB hkd => ?_
           have h9 := apE_9 (l := xs) (m := ys) (by omega) (by omega) (by rw [List.any_append, anyL hx47 hc51, Bool.or_true])
           rw [apR_e (by rw [h9]; decide), h9]; exact ⟨rfl, hb⟩
          ·refine wp_skip' (to_k0 (fun _ _ h => h) (hK24 _ _ _ _ _ ?_))
           clear hK24
           refine wp_reg ?_
           refine ol_r (r_add rfl rfl (by omega)) rfl ?_
           refine ol_r (r_move rfl) rfl ?_
           refine ol_nil (to_k0 (fun _ _ h => h) (hK21 (k + 1) _ _ ?_ ?_ (sub_cons rfl sub_nil) (sub_cons rfl (sub_cons rfl (sub_cons rfl (sub_cons rfl sub_nil)))) (by exact subH_nil) subH_nil))
           ·try dsimp only
            exact ⟨by omega, allL hx47 hR hc51⟩
           ·try dsimp only
            omega
         ·refine wp_exit' (to_k0 (fun _ _ h => h) (hK19 _ _ _ _ _ ?_))
          clear hK19
          refine wp_seq' fun K28 hK28 => ?_
          refine wp_reg ?_
          rw [List.take_of_length_le (by omega)] at hP hR
          have h0 : apE xs ys = 0 := apE_0 (by omega) (by omega) (by rw [List.any_append, anyN hP, anyN hR]; rfl)
          obtain ⟨_, _, hl1, hl2, hpx, hpy⟩ := apE_inv h0
          clear hP hR
          refine ol_r (r_move rfl) rfl ?_
          refine ol_r (r_len rfl sl57) rfl ?_
          refine ol_make encI (0) 55 rfl rfl rw47 z3 rfl rfl (by omega) rfl fun a55 => ?_
          refine ol_r (r_assign rfl) rfl ?_
          refine ol_nil (to_k0 (fun _ _ h => h) (hK28 _ _ _ _ _ ?_))
          clear hK28
          refine wp_seq' fun K29 hK29 => ?_
          refine wp_seq' fun K30 hK30 => ?_
          refine wp_reg ?_
          try simp only [Int.toNat_natCast]
          refine ol_r (r_move rfl) rfl ?_
          refine ol_r (r_len rfl sl57) rfl ?_
          refine ol_r (r_move rfl) rfl ?_
          refine ol_nil (to_k0 (fun _ _ h => h) (hK30 _ _ _ _ _ ?_))
          clear hK30
          refine wp_block' ?_
          apply wp_loopM (σ := Nat) (fun s => s ≤ n) (fun s => [(58, .int .i64 s)]) [(1, _), (10, _), (56, _), (57, _)] (fun s => [(55, .row a55 m m (encI.enc (tab m (apRow (dAt xs ys) s 0))) 3 1)]) [] (fun s => n - s) (0)
          ·try dsimp only
           exact Nat.zero_le _
          ·exact (sub_cons rfl sub_nil)
          ·exact (sub_cons rfl (sub_cons rfl (sub_cons rfl (sub_cons rfl sub_nil))))
          ·exact (subH_row rfl (by (rw [apRow_start, ← tab_zero])) subH_nil)
          ·exact subH_nil
          ·intro i hi
           intro K31 hK31
           refine wp_seq' fun K32 hK32 => ?_
           refine wp_reg ?_
           refine ol_r (r_lss rfl rfl) rfl ?_
           refine ol_nil (to_k0 (fun _ _ h => h) (hK32 _ _ _ _ _ ?_))
           clear hK32
           refine wp_seq' fun K33 hK33 => ?_
           refine wp_condD rfl (fun hc59 => ?_) (fun hc59 => ?_)
           ·refine wp_skip' (to_k0 (fun _ _ h => h) (hK33 _ _ _ _ _ ?_))
            clear hK33
            refine wp_seq' fun K34 hK34 => ?_
            refine wp_block' ?_
            refine wp_seq' fun K35 hK35 => ?_
            refine wp_reg ?_
            refine ol_r (r_move rfl) rfl ?_
            refine ol_ixr hx rfl rfl sl57 (by omega) rfl fun x61 hx61 => ?_
            try simp only [Int.toNat_natCast] at hx61
            refine ol_r (r_ldw rfl (fun w1 hb1 hs1 hB1 => Rd.loads hx ty62 hx61 hb1)) rfl ?_
            refine ol_alloc 12 z62 rfl fun b12 => ?_
            refine ol_r (r_assign rfl) rfl ?_
            refine ol_store (id := 12) rfl rfl rfl rfl sz62 rfl rfl (by first | decide | exact Nat.zero_lt_succ _ | simp) ?_
            refine ol_nil (to_k0 (fun _ _ h => h) (hK35 _ _ _ _ _ ?_))
            clear hK35
            refine wp_seq' fun K36 hK36 => ?_
            refine wp_reg ?_
            refine ol_r (r_assign rfl) rfl ?_
            refine ol_nil (to_k0 (fun _ _ h => h) (hK36 _ _ _ _ _ ?_))
            clear hK36
            refine wp_seq' fun K37 hK37 => ?_
            refine wp_reg ?_
            refine ol_r (r_move rfl) rfl ?_
            refine ol_r (r_len rfl sl57) rfl ?_
            refine ol_r (r_move rfl) rfl ?_
            refine ol_nil (to_k0 (fun _ _ h => h) (hK37 _ _ _ _ _ ?_))
            clear hK37
            refine wp_block' ?_
            apply wp_loopM (σ := Nat) (fun s => s ≤ m) (fun s => [(65, .int .i64 s), (13, .int .i64 (apBef (dAt xs ys) i s))]) [(1, _), (10, _), (11, _), (12, _), (56, _), (57, _), (58, _), (63, _), (64, _)] (fun s => [(55, .row a55 m m (encI.enc (tab m (apRow (dAt xs ys) i s))) 3 1)]) [(12, _)] (fun s => m - s) (0)
            ·try dsimp only
             exact Nat.zero_le _
            ·exact (sub_cons (by first | rfl | (first | rfl | (rw [apBef_zero]; rfl))) (sub_cons (by first | rfl | (first | rfl | (rw [apBef_zero]; rfl))) sub_nil))
            ·exact (sub_cons rfl (sub_cons rfl (sub_cons rfl (sub_cons rfl (sub_cons rfl (sub_cons rfl (sub_cons rfl (sub_cons rfl (sub_cons rfl sub_nil)))))))))
            ·exact (subH_row rfl (by rfl) subH_nil)
            ·exact (subH_same rfl subH_nil)
            ·intro k hk
             intro K38 hK38
             refine wp_seq' fun K39 hK39 => ?_
             refine wp_reg ?_
             refine ol_r (r_lss rfl rfl) rfl ?_
             refine ol_nil (to_k0 (fun _ _ h => h) (hK39 _ _ _ _ _ ?_))
             clear hK39
             refine wp_seq' fun K40 hK40 => ?_
             refine wp_condD rfl (fun hc66 => ?_) (fun hc66 => ?_)
             ·refine wp_skip' (to_k0 (fun _ _ h => h) (hK40 _ _ _ _ _ ?_))
              clear hK40
              refine wp_seq' fun K41 hK41 => ?_
              refine wp_block' ?_
              refine wp_seq' fun K42 hK42 => ?_
              refine wp_reg ?_
              refine ol_r (r_move rfl) rfl ?_
              refine ol_ixr hy rfl rfl sl57 (by omega) rfl fun x68 hx68 => ?_
              try simp only [Int.toNat_natCast] at hx68
              refine ol_r (r_ldw rfl (fun w1 hb1 hs1 hB1 => Rd.loads hy ty62 hx68 hb1)) rfl ?_
              refine ol_alloc 15 z62 rfl fun b15 => ?_
              refine ol_r (r_assign rfl) rfl ?_
              refine ol_store (id := 15) rfl rfl rfl rfl sz62 rfl rfl (by first | decide | exact Nat.zero_lt_succ _ | simp) ?_
              refine ol_nil (to_k0 (fun _ _ h => h) (hK42 _ _ _ _ _ ?_))
              clear hK42
              refine wp_seq' fun K43 hK43 => ?_
              refine wp_reg ?_
              have hD : dAt xs ys i k = (x61.x - x68.x) * (x61.x - x68.x) + (x61.y - x68.y) * (x61.y - x68.y) := dAt_eq hx61 hx68
              have hDn := dAt_nonneg xs ys i k
              obtain ⟨b1, b2⟩ := ptR_iff.1 (hpx x61 (List.mem_of_getElem? hx61))
              obtain ⟨b3, b4⟩ := ptR_iff.1 (hpy x68 (List.mem_of_getElem? hx68))
              have m1 := sqd_bd b1 b3
              have m2 := sqd_bd b2 b4
              have htl := tab_len m (apRow (dAt xs ys) i k)
              refine ol_r (r_move rfl) rfl ?_
              refine ol_r (r_move rfl) rfl ?_
              refine ol_ixo (id := 55) encI _ rfl rfl rfl rfl sl47 (by omega) rfl fun x72 hx72 => ?_
              try simp only [Int.toNat_natCast] at hx72
              try simp only [Int.toNat_natCast] at hx72
              refine ol_r (r_ldw rfl (fun w1 hb1 hs1 hB1 => show Loads _ _ _ _ (.int .i64 x72) from ld_own (id := 55) hs1 rfl rfl ty3 hx72)) rfl ?_
              refine ol_r (r_assign rfl) rfl ?_
              refine ol_nil (to_k0 (fun _ _ h => h) (hK43 _ _ _ _ _ ?_))
              clear hK43
              refine wp_seq' fun K44 hK44 => ?_
              refine wp_block' ?_
              refine wp_seq' fun K45 hK45 => ?_
              refine wp_reg ?_
              refine ol_r (r_move rfl) rfl ?_
              refine ol_r (r_eql rfl rfl) rfl ?_
              refine ol_r (r_move rfl) rfl ?_
              refine ol_split (d := 77) rfl (fun hs77 => ?_) (fun hs77 => ?_)
              ·have phs77 := hs77; try simp only [decide_eq_true_eq, decide_eq_false_iff_not, Bool.not_eq_true', Bool.not_eq_false', Bool.not_true, Bool.not_false] at phs77
               refine ol_g rfl rfl hs77 ?_
               refine ol_r (r_move rfl) rfl ?_
               refine ol_g rfl rfl hs77 ?_
               refine ol_r (r_eql rfl rfl) rfl ?_
               refine ol_r (r_pickT rfl hs77 rfl) rfl ?_
               refine ol_r (r_assign rfl) rfl ?_
               refine ol_nil (to_k0 (fun _ _ h => h) (hK45 _ _ _ _ _ ?_))
               clear hK45
               refine wp_condD rfl (fun hc74 => ?_) (fun hc74 => ?_)
               ·refine wp_reg ?_
                refine ol_r (r_assign rfl) rfl ?_
                refine ol_nil (to_k0 (fun _ _ h => h) (hK44 _ _ _ _ _ ?_))
                clear hK44
                refine wp_seq' fun K46 hK46 => ?_
                refine wp_reg ?_
                refine ol_r (r_move rfl) rfl ?_
                refine ol_r (r_move rfl) rfl ?_
                refine ol_ixo (id := 55) encI _ rfl rfl rfl rfl sl47 (by omega) rfl fun x102 hx102 => ?_
                try simp only [Int.toNat_natCast] at hx102
                try simp only [Int.toNat_natCast] at hx102
                refine ol_r (r_ldw rfl (fun w1 hb1 hs1 hB1 => show Loads _ _ _ _ (.int .i64 x102) from ld_own (id := 55) hs1 rfl rfl ty3 hx102)) rfl ?_
                refine ol_r (r_assign rfl) rfl ?_
                refine ol_nil (to_k0 (fun _ _ h => h) (hK46 _ _ _ _ _ ?_))
                clear hK46
                refine wp_rega [(999, [(12, _), (15, _)]), (18, [(55, _)])] (by kernel_rfl) ⟨.inr (subH_same rfl (subH_same rfl subH_nil)), ⟨.inr (subH_same rfl subH_nil), trivial⟩⟩ ?_
                have h103 := (tab_get hx102).2
                rw [← apBef_succ] at h103
                subst h103
                refine aq_r 0 999 rfl (by kernel_rfl) (by kernel_rfl) (by kernel_rfl) (.head _) (by kernel_rfl) (by kernel_rfl) rfl (r_move rfl) ?_
                refine aq_r 1 999 rfl (by kernel_rfl) (by kernel_rfl) (by kernel_rfl) (.head _) (by kernel_rfl) (by kernel_rfl) rfl (r_move rfl) ?_
                refine aq_r 2 999 rfl (by kernel_rfl) (by kernel_rfl) (by kernel_rfl) (.head _) (by kernel_rfl) (by kernel_rfl) rfl (r_move rfl) ?_
                refine aq_r 3 999 rfl (by kernel_rfl) (by kernel_rfl) (by kernel_rfl) (.head _) (by kernel_rfl) (by kernel_rfl) rfl (r_fa (o' := 0) rfl fl62_0 rfl) ?_
                refine aq_r 4 999 rfl (by kernel_rfl) (by kernel_rfl) (by kernel_rfl) (.head _) (by kernel_rfl) (by kernel_rfl) rfl (r_ld (id := 12) rfl rfl rfl sc3) ?_
                refine aq_r 5 999 rfl (by kernel_rfl) (by kernel_rfl) (by kernel_rfl) (.head _) (by kernel_rfl) (by kernel_rfl) rfl (r_fa (o' := 0) rfl fl62_0 rfl) ?_
                refine aq_r 6 999 rfl (by kernel_rfl) (by kernel_rfl) (by kernel_rfl) (.head _) (by kernel_rfl) (by kernel_rfl) rfl (r_ld (id := 15) rfl rfl rfl sc3) ?_
                refine aq_r 7 999 rfl (by kernel_rfl) (by kernel_rfl) (by kernel_rfl) (.head _) (by kernel_rfl) (by kernel_rfl) rfl (r_sub rfl rfl (by omega)) ?_
                refine aq_r 9 999 rfl (by kernel_rfl) (by kernel_rfl) (by kernel_rfl) (.head _) (by kernel_rfl) (by kernel_rfl) rfl (r_fa (o' := 1) rfl fl62_1 rfl) ?_
                refine aq_r 10 999 rfl (by kernel_rfl) (by kernel_rfl) (by kernel_rfl) (.head _) (by kernel_rfl) (by kernel_rfl) rfl (r_ld (id := 12) rfl rfl rfl sc3) ?_
                refine aq_r 11 999 rfl (by kernel_rfl) (by kernel_rfl) (by kernel_rfl) (.head _) (by kernel_rfl) (by kernel_rfl) rfl (r_fa (o' := 1) rfl fl62_1 rfl) ?_
                refine aq_r 12 999 rfl (by kernel_rfl) (by kernel_rfl) (by kernel_rfl) (.head _) (by kernel_rfl) (by kernel_rfl) rfl (r_ld (id := 15) rfl rfl rfl sc3) ?_
                refine aq_r 13 999 rfl (by kernel_rfl) (by kernel_rfl) (by kernel_rfl) (.head _) (by kernel_rfl) (by kernel_rfl) rfl (r_sub rfl rfl (by omega)) ?_
                refine aq_one (i := 8) (by kernel_rfl) rfl fun K47 hK47 => ?_
                refine ol_call rfl rfl cb68 rfl (fun w1 hb1 hs1 hB1 => Calls.mono (ref5_square _ _ (by omega)) ?_)
                rintro e w2 ⟨rfl, hb2⟩
                refine After.below rfl hb1 hs1 hB1 hb2 ?_
                clear hb2 hB1 hs1 hb1 w2 w1
                refine ol_nil (to_k0 (fun _ _ h => h) (hK47 _ _ ⟨.inr (by repeat' first | exact subH_nil | refine subH_same rfl ?_ | (refine subH_blk rfl (by repeat' first | exact sub_nil | refine sub_cons rfl ?_) ?_)), ⟨.inr (by repeat' first | exact subH_nil | refine subH_same rfl ?_ | (refine subH_blk rfl (by repeat' first | exact sub_nil | refine sub_cons rfl ?_) ?_)), trivial⟩⟩ ?_))
                clear hK47
                refine aq_one (i := 14) (by kernel_rfl) rfl fun K48 hK48 => ?_
                refine ol_call rfl rfl cb68 rfl (fun w1 hb1 hs1 hB1 => Calls.mono (ref5_square _ _ (by omega)) ?_)
                rintro e w2 ⟨rfl, hb2⟩
                refine After.below rfl hb1 hs1 hB1 hb2 ?_
                clear hb2 hB1 hs1 hb1 w2 w1
                refine ol_nil (to_k0 (fun _ _ h => h) (hK48 _ _ ⟨.inr (by repeat' first | exact subH_nil | refine subH_same rfl ?_ | (refine subH_blk rfl (by repeat' first | exact sub_nil | refine sub_cons rfl ?_) ?_)), ⟨.inr (by repeat' first | exact subH_nil | refine subH_same rfl ?_ | (refine subH_blk rfl (by repeat' first | exact sub_nil | refine sub_cons rfl ?_) ?_)), trivial⟩⟩ ?_))
                clear hK48
                refine aq_r 15 999 rfl (by kernel_rfl) (by kernel_rfl) (by kernel_rfl) (.head _) (by kernel_rfl) (by kernel_rfl) rfl (r_add rfl rfl (by omega)) ?_
                refine aq_r 16 999 rfl (by kernel_rfl) (by kernel_rfl) (by kernel_rfl) (.head _) (by kernel_rfl) (by kernel_rfl) rfl (r_max rfl rfl) ?_
                refine aq_ixo 17 18 rfl (by kernel_rfl) (by kernel_rfl) (by kernel_rfl) (.tail _ (.head _)) (by kernel_rfl) (by kernel_rfl) rfl (id := 55) encI _ rfl rfl rfl rfl sl47 (by omega) (by omega) fun x121 hx121 => ?_
                try simp only [Int.toNat_natCast] at hx121
                try simp only [Int.toNat_natCast] at hx121
                refine aq_one (i := 18) (by kernel_rfl) rfl fun K49 hK49 => ?_
                refine ol_storeRow (id := 55) _ _ _ rfl rfl rfl rfl sz3 (by omega) ?_
                refine ol_nil (to_k0 (fun _ _ h => h) (hK49 _ _ ⟨.inr (by repeat' first | exact subH_nil | refine subH_same rfl ?_ | (refine subH_blk rfl (by repeat' first | exact sub_nil | refine sub_cons rfl ?_) ?_)), ⟨.inl (by kernel_rfl), trivial⟩⟩ ?_))
                clear hK49
                refine aq_done (by kernel_rfl) ?_
                refine (to_k0 (fun _ _ h => h) (hK41 _ _ _ _ _ ?_))
                clear hK41
                refine wp_reg ?_
                refine ol_r (r_add rfl rfl (by omega)) rfl ?_
                refine ol_r (r_move rfl) rfl ?_
                refine ol_nil (to_k0 (fun _ _ h => h) (hK38 (k + 1) _ _ ?_ ?_ (sub_cons rfl (sub_cons rfl sub_nil)) (sub_cons rfl (sub_cons rfl (sub_cons rfl (sub_cons rfl (sub_cons rfl (sub_cons rfl (sub_cons rfl (sub_cons rfl (sub_cons rfl sub_nil))))))))) (by exact (subH_row rfl (by (first | exact congrArg encI.enc (apRow_1' hD hx72 hx96 (by omega) (by omega)) | exact congrArg encI.enc (apRow_2' hD hx72 (by omega) (by omega)) | exact congrArg encI.enc (apRow_3' hD hx87 (by omega) (by omega) (by omega)) | exact congrArg encI.enc (apRow_4' hD (by omega) (by omega) (by omega) (by omega)))) subH_nil)) (subH_same rfl subH_nil)))
                ·try dsimp only
                 omega
                ·try dsimp only
                 omega
               ·refine wp_seq' fun K50 hK50 => ?_
                refine wp_reg ?_
                refine ol_r (r_move rfl) rfl ?_
                refine ol_r (r_eql rfl rfl) rfl ?_
                refine ol_r (r_assign rfl) rfl ?_
                refine ol_nil (to_k0 (fun _ _ h => h) (hK50 _ _ _ _ _ ?_))
                clear hK50
                refine wp_condD rfl (fun hc81 => ?_) (fun hc81 => ?_)
                ·refine wp_reg ?_
                 refine ol_r (r_move rfl) rfl ?_
                 refine ol_r (r_move rfl) rfl ?_
                 refine ol_r (r_sub rfl rfl (by omega)) rfl ?_
                 refine ol_ixo (id := 55) encI _ rfl rfl rfl rfl sl47 (by omega) rfl fun x87 hx87 => ?_
                 try simp only [Int.toNat_natCast] at hx87
                 try simp only [Int.toNat_natCast] at hx87
                 refine ol_r (r_ldw rfl (fun w1 hb1 hs1 hB1 => show Loads _ _ _ _ (.int .i64 x87) from ld_own (id := 55) hs1 rfl rfl ty3 hx87)) rfl ?_
                 refine ol_r (r_assign rfl) rfl ?_
                 refine ol_nil (to_k0 (fun _ _ h => h) (hK44 _ _ _ _ _ ?_))
                 clear hK44
                 refine wp_seq' fun K51 hK51 => ?_
                 refine wp_reg ?_
                 refine ol_r (r_move rfl) rfl ?_
                 refine ol_r (r_move rfl) rfl ?_
                 refine ol_ixo (id := 55) encI _ rfl rfl rfl rfl sl47 (by omega) rfl fun x102 hx102 => ?_
                 try simp only [Int.toNat_natCast] at hx102
                 try simp only [Int.toNat_natCast] at hx102
                 refine ol_r (r_ldw rfl (fun w1 hb1 hs1 hB1 => show Loads _ _ _ _ (.int .i64 x102) from ld_own (id := 55) hs1 rfl rfl ty3 hx102)) rfl ?_
                 refine ol_r (r_assign rfl) rfl ?_
                 refine ol_nil (to_k0 (fun _ _ h => h) (hK51 _ _ _ _ _ ?_))
                 clear hK51
                 refine wp_rega [(999, [(12, _), (15, _)]), (18, [(55, _)])] (by kernel_rfl) ⟨.inr (subH_same rfl (subH_same rfl subH_nil)), ⟨.inr (subH_same rfl subH_nil), trivial⟩⟩ ?_
                 have h103 := (tab_get hx102).2
                 rw [← apBef_succ] at h103
                 subst h103
                 refine aq_r 0 999 rfl (by kernel_rfl) (by kernel_rfl) (by kernel_rfl) (.head _) (by kernel_rfl) (by kernel_rfl) rfl (r_move rfl) ?_
                 refine aq_r 1 999 rfl (by kernel_rfl) (by kernel_rfl) (by kernel_rfl) (.head _) (by kernel_rfl) (by kernel_rfl) rfl (r_move rfl) ?_
                 refine aq_r 2 999 rfl (by kernel_rfl) (by kernel_rfl) (by kernel_rfl) (.head _) (by kernel_rfl) (by kernel_rfl) rfl (r_move rfl) ?_
                 refine aq_r 3 999 rfl (by kernel_rfl) (by kernel_rfl) (by kernel_rfl) (.head _) (by kernel_rfl) (by kernel_rfl) rfl (r_fa (o' := 0) rfl fl62_0 rfl) ?_
                 refine aq_r 4 999 rfl (by kernel_rfl) (by kernel_rfl) (by kernel_rfl) (.head _) (by kernel_rfl) (by kernel_rfl) rfl (r_ld (id := 12) rfl rfl rfl sc3) ?_
                 refine aq_r 5 999 rfl (by kernel_rfl) (by kernel_rfl) (by kernel_rfl) (.head _) (by kernel_rfl) (by kernel_rfl) rfl (r_fa (o' := 0) rfl fl62_0 rfl) ?_
                 refine aq_r 6 999 rfl (by kernel_rfl) (by kernel_rfl) (by kernel_rfl) (.head _) (by kernel_rfl) (by kernel_rfl) rfl (r_ld (id := 15) rfl rfl rfl sc3) ?_
                 refine aq_r 7 999 rfl (by kernel_rfl) (by kernel_rfl) (by kernel_rfl) (.head _) (by kernel_rfl) (by kernel_rfl) rfl (r_sub rfl rfl (by omega)) ?_
                 refine aq_r 9 999 rfl (by kernel_rfl) (by kernel_rfl) (by kernel_rfl) (.head _) (by kernel_rfl) (by kernel_rfl) rfl (r_fa (o' := 1) rfl fl62_1 rfl) ?_
                 refine aq_r 10 999 rfl (by kernel_rfl) (by kernel_rfl) (by kernel_rfl) (.head _) (by kernel_rfl) (by kernel_rfl) rfl (r_ld (id := 12) rfl rfl rfl sc3) ?_
                 refine aq_r 11 999 rfl (by kernel_rfl) (by kernel_rfl) (by kernel_rfl) (.head _) (by kernel_rfl) (by kernel_rfl) rfl (r_fa (o' := 1) rfl fl62_1 rfl) ?_
                 refine aq_r 12 999 rfl (by kernel_rfl) (by kernel_rfl) (by kernel_rfl) (.head _) (by kernel_rfl) (by kernel_rfl) rfl (r_ld (id := 15) rfl rfl rfl sc3) ?_
                 refine aq_r 13 999 rfl (by kernel_rfl) (by kernel_rfl) (by kernel_rfl) (.head _) (by kernel_rfl) (by kernel_rfl) rfl (r_sub rfl rfl (by omega)) ?_
                 refine aq_one (i := 8) (by kernel_rfl) rfl fun K52 hK52 => ?_
                 refine ol_call rfl rfl cb68 rfl (fun w1 hb1 hs1 hB1 => Calls.mono (ref5_square _ _ (by omega)) ?_)
                 rintro e w2 ⟨rfl, hb2⟩
                 refine After.below rfl hb1 hs1 hB1 hb2 ?_
                 clear hb2 hB1 hs1 hb1 w2 w1
                 refine ol_nil (to_k0 (fun _ _ h => h) (hK52 _ _ ⟨.inr (by repeat' first | exact subH_nil | refine subH_same rfl ?_ | (refine subH_blk rfl (by repeat' first | exact sub_nil | refine sub_cons rfl ?_) ?_)), ⟨.inr (by repeat' first | exact subH_nil | refine subH_same rfl ?_ | (refine subH_blk rfl (by repeat' first | exact sub_nil | refine sub_cons rfl ?_) ?_)), trivial⟩⟩ ?_))
                 clear hK52
                 refine aq_one (i := 14) (by kernel_rfl) rfl fun K53 hK53 => ?_
                 refine ol_call rfl rfl cb68 rfl (fun w1 hb1 hs1 hB1 => Calls.mono (ref5_square _ _ (by omega)) ?_)
                 rintro e w2 ⟨rfl, hb2⟩
                 refine After.below rfl hb1 hs1 hB1 hb2 ?_
                 clear hb2 hB1 hs1 hb1 w2 w1
                 refine ol_nil (to_k0 (fun _ _ h => h) (hK53 _ _ ⟨.inr (by repeat' first | exact subH_nil | refine subH_same rfl ?_ | (refine subH_blk rfl (by repeat' first | exact sub_nil | refine sub_cons rfl ?_) ?_)), ⟨.inr (by repeat' first | exact subH_nil | refine subH_same rfl ?_ | (refine subH_blk rfl (by repeat' first | exact sub_nil | refine sub_cons rfl ?_) ?_)), trivial⟩⟩ ?_))
                 clear hK53
                 refine aq_r 15 999 rfl (by kernel_rfl) (by kernel_rfl) (by kernel_rfl) (.head _) (by kernel_rfl) (by kernel_rfl) rfl (r_add rfl rfl (by omega)) ?_
                 refine aq_r 16 999 rfl (by kernel_rfl) (by kernel_rfl) (by kernel_rfl) (.head _) (by kernel_rfl) (by kernel_rfl) rfl (r_max rfl rfl) ?_
                 refine aq_ixo 17 18 rfl (by kernel_rfl) (by kernel_rfl) (by kernel_rfl) (.tail _ (.head _)) (by kernel_rfl) (by kernel_rfl) rfl (id := 55) encI _ rfl rfl rfl rfl sl47 (by omega) (by omega) fun x121 hx121 => ?_
                 try simp only [Int.toNat_natCast] at hx121
                 try simp only [Int.toNat_natCast] at hx121
                 refine aq_one (i := 18) (by kernel_rfl) rfl fun K54 hK54 => ?_
                 refine ol_storeRow (id := 55) _ _ _ rfl rfl rfl rfl sz3 (by omega) ?_
                 refine ol_nil (to_k0 (fun _ _ h => h) (hK54 _ _ ⟨.inr (by repeat' first | exact subH_nil | refine subH_same rfl ?_ | (refine subH_blk rfl (by repeat' first | exact sub_nil | refine sub_cons rfl ?_) ?_)), ⟨.inl (by kernel_rfl), trivial⟩⟩ ?_))
                 clear hK54
                 refine aq_done (by kernel_rfl) ?_
                 refine (to_k0 (fun _ _ h => h) (hK41 _ _ _ _ _ ?_))
                 clear hK41
                 refine wp_reg ?_
                 refine ol_r (r_add rfl rfl (by omega)) rfl ?_
                 refine ol_r (r_move rfl) rfl ?_
                 refine ol_nil (to_k0 (fun _ _ h => h) (hK38 (k + 1) _ _ ?_ ?_ (sub_cons rfl (sub_cons rfl sub_nil)) (sub_cons rfl (sub_cons rfl (sub_cons rfl (sub_cons rfl (sub_cons rfl (sub_cons rfl (sub_cons rfl (sub_cons rfl (sub_cons rfl sub_nil))))))))) (by exact (subH_row rfl (by (first | exact congrArg encI.enc (apRow_1' hD hx72 hx96 (by omega) (by omega)) | exact congrArg encI.enc (apRow_2' hD hx72 (by omega) (by omega)) | exact congrArg encI.enc (apRow_3' hD hx87 (by omega) (by omega) (by omega)) | exact congrArg encI.enc (apRow_4' hD (by omega) (by omega) (by omega) (by omega)))) subH_nil)) (subH_same rfl subH_nil)))
                 ·try dsimp only
                  omega
                 ·try dsimp only
                  omega
                ·refine wp_seq' fun K55 hK55 => ?_
                 refine wp_reg ?_
                 refine ol_r (r_move rfl) rfl ?_
                 refine ol_r (r_gtr rfl rfl) rfl ?_
                 refine ol_r (r_assign rfl) rfl ?_
                 refine ol_nil (to_k0 (fun _ _ h => h) (hK55 _ _ _ _ _ ?_))
                 clear hK55
                 refine wp_condD rfl (fun hc89 => ?_) (fun hc89 => ?_)
                 ·refine wp_reg ?_
                  refine ol_r (r_move rfl) rfl ?_
                  refine ol_r (r_move rfl) rfl ?_
                  refine ol_r (r_move rfl) rfl ?_
                  refine ol_r (r_sub rfl rfl (by omega)) rfl ?_
                  refine ol_ixo (id := 55) encI _ rfl rfl rfl rfl sl47 (by omega) rfl fun x96 hx96 => ?_
                  try simp only [Int.toNat_natCast] at hx96
                  try simp only [Int.toNat_natCast] at hx96
                  refine ol_r (r_ldw rfl (fun w1 hb1 hs1 hB1 => show Loads _ _ _ _ (.int .i64 x96) from ld_own (id := 55) hs1 rfl rfl ty3 hx96)) rfl ?_
                  refine ol_r (r_move rfl) rfl ?_
                  refine ol_r (r_min3 rfl rfl rfl) rfl ?_
                  refine ol_r (r_assign rfl) rfl ?_
                  refine ol_nil (to_k0 (fun _ _ h => h) (hK44 _ _ _ _ _ ?_))
                  clear hK44
                  refine wp_seq' fun K56 hK56 => ?_
                  refine wp_reg ?_
                  refine ol_r (r_move rfl) rfl ?_
                  refine ol_r (r_move rfl) rfl ?_
                  refine ol_ixo (id := 55) encI _ rfl rfl rfl rfl sl47 (by omega) rfl fun x102 hx102 => ?_
                  try simp only [Int.toNat_natCast] at hx102
                  try simp only [Int.toNat_natCast] at hx102
                  refine ol_r (r_ldw rfl (fun w1 hb1 hs1 hB1 => show Loads _ _ _ _ (.int .i64 x102) from ld_own (id := 55) hs1 rfl rfl ty3 hx102)) rfl ?_
                  refine ol_r (r_assign rfl) rfl ?_
                  refine ol_nil (to_k0 (fun _ _ h => h) (hK56 _ _ _ _ _ ?_))
                  clear hK56
                  refine wp_rega [(999, [(12, _), (15, _)]), (18, [(55, _)])] (by kernel_rfl) ⟨.inr (subH_same rfl (subH_same rfl subH_nil)), ⟨.inr (subH_same rfl subH_nil), trivial⟩⟩ ?_
                  have h103 := (tab_get hx102).2
                  rw [← apBef_succ] at h103
                  subst h103
                  refine aq_r 0 999 rfl (by kernel_rfl) (by kernel_rfl) (by kernel_rfl) (.head _) (by kernel_rfl) (by kernel_rfl) rfl (r_move rfl) ?_
                  refine aq_r 1 999 rfl (by kernel_rfl) (by kernel_rfl) (by kernel_rfl) (.head _) (by kernel_rfl) (by kernel_rfl) rfl (r_move rfl) ?_
                  refine aq_r 2 999 rfl (by kernel_rfl) (by kernel_rfl) (by kernel_rfl) (.head _) (by kernel_rfl) (by kernel_rfl) rfl (r_move rfl) ?_
                  refine aq_r 3 999 rfl (by kernel_rfl) (by kernel_rfl) (by kernel_rfl) (.head _) (by kernel_rfl) (by kernel_rfl) rfl (r_fa (o' := 0) rfl fl62_0 rfl) ?_
                  refine aq_r 4 999 rfl (by kernel_rfl) (by kernel_rfl) (by kernel_rfl) (.head _) (by kernel_rfl) (by kernel_rfl) rfl (r_ld (id := 12) rfl rfl rfl sc3) ?_
                  refine aq_r 5 999 rfl (by kernel_rfl) (by kernel_rfl) (by kernel_rfl) (.head _) (by kernel_rfl) (by kernel_rfl) rfl (r_fa (o' := 0) rfl fl62_0 rfl) ?_
                  refine aq_r 6 999 rfl (by kernel_rfl) (by kernel_rfl) (by kernel_rfl) (.head _) (by kernel_rfl) (by kernel_rfl) rfl (r_ld (id := 15) rfl rfl rfl sc3) ?_
                  refine aq_r 7 999 rfl (by kernel_rfl) (by kernel_rfl) (by kernel_rfl) (.head _) (by kernel_rfl) (by kernel_rfl) rfl (r_sub rfl rfl (by omega)) ?_
                  refine aq_r 9 999 rfl (by kernel_rfl) (by kernel_rfl) (by kernel_rfl) (.head _) (by kernel_rfl) (by kernel_rfl) rfl (r_fa (o' := 1) rfl fl62_1 rfl) ?_
                  refine aq_r 10 999 rfl (by kernel_rfl) (by kernel_rfl) (by kernel_rfl) (.head _) (by kernel_rfl) (by kernel_rfl) rfl (r_ld (id := 12) rfl rfl rfl sc3) ?_
                  refine aq_r 11 999 rfl (by kernel_rfl) (by kernel_rfl) (by kernel_rfl) (.head _) (by kernel_rfl) (by kernel_rfl) rfl (r_fa (o' := 1) rfl fl62_1 rfl) ?_
                  refine aq_r 12 999 rfl (by kernel_rfl) (by kernel_rfl) (by kernel_rfl) (.head _) (by kernel_rfl) (by kernel_rfl) rfl (r_ld (id := 15) rfl rfl rfl sc3) ?_
                  refine aq_r 13 999 rfl (by kernel_rfl) (by kernel_rfl) (by kernel_rfl) (.head _) (by kernel_rfl) (by kernel_rfl) rfl (r_sub rfl rfl (by omega)) ?_
                  refine aq_one (i := 8) (by kernel_rfl) rfl fun K57 hK57 => ?_
                  refine ol_call rfl rfl cb68 rfl (fun w1 hb1 hs1 hB1 => Calls.mono (ref5_square _ _ (by omega)) ?_)
                  rintro e w2 ⟨rfl, hb2⟩
                  refine After.below rfl hb1 hs1 hB1 hb2 ?_
                  clear hb2 hB1 hs1 hb1 w2 w1
                  refine ol_nil (to_k0 (fun _ _ h => h) (hK57 _ _ ⟨.inr (by repeat' first | exact subH_nil | refine subH_same rfl ?_ | (refine subH_blk rfl (by repeat' first | exact sub_nil | refine sub_cons rfl ?_) ?_)), ⟨.inr (by repeat' first | exact subH_nil | refine subH_same rfl ?_ | (refine subH_blk rfl (by repeat' first | exact sub_nil | refine sub_cons rfl ?_) ?_)), trivial⟩⟩ ?_))
                  clear hK57
                  refine aq_one (i := 14) (by kernel_rfl) rfl fun K58 hK58 => ?_
                  refine ol_call rfl rfl cb68 rfl (fun w1 hb1 hs1 hB1 => Calls.mono (ref5_square _ _ (by omega)) ?_)
                  rintro e w2 ⟨rfl, hb2⟩
                  refine After.below rfl hb1 hs1 hB1 hb2 ?_
                  clear hb2 hB1 hs1 hb1 w2 w1
                  refine ol_nil (to_k0 (fun _ _ h => h) (hK58 _ _ ⟨.inr (by repeat' first | exact subH_nil | refine subH_same rfl ?_ | (refine subH_blk rfl (by repeat' first | exact sub_nil | refine sub_cons rfl ?_) ?_)), ⟨.inr (by repeat' first | exact subH_nil | refine subH_same rfl ?_ | (refine subH_blk rfl (by repeat' first | exact sub_nil | refine sub_cons rfl ?_) ?_)), trivial⟩⟩ ?_))
                  clear hK58
                  refine aq_r 15 999 rfl (by kernel_rfl) (by kernel_rfl) (by kernel_rfl) (.head _) (by kernel_rfl) (by kernel_rfl) rfl (r_add rfl rfl (by omega)) ?_
                  refine aq_r 16 999 rfl (by kernel_rfl) (by kernel_rfl) (by kernel_rfl) (.head _) (by kernel_rfl) (by kernel_rfl) rfl (r_max rfl rfl) ?_
                  refine aq_ixo 17 18 rfl (by kernel_rfl) (by kernel_rfl) (by kernel_rfl) (.tail _ (.head _)) (by kernel_rfl) (by kernel_rfl) rfl (id := 55) encI _ rfl rfl rfl rfl sl47 (by omega) (by omega) fun x121 hx121 => ?_
                  try simp only [Int.toNat_natCast] at hx121
                  try simp only [Int.toNat_natCast] at hx121
                  refine aq_one (i := 18) (by kernel_rfl) rfl fun K59 hK59 => ?_
                  refine ol_storeRow (id := 55) _ _ _ rfl rfl rfl rfl sz3 (by omega) ?_
                  refine ol_nil (to_k0 (fun _ _ h => h) (hK59 _ _ ⟨.inr (by repeat' first | exact subH_nil | refine subH_same rfl ?_ | (refine subH_blk rfl (by repeat' first | exact sub_nil | refine sub_cons rfl ?_) ?_)), ⟨.inl (by kernel_rfl), trivial⟩⟩ ?_))
                  clear hK59
                  refine aq_done (by kernel_rfl) ?_
                  refine (to_k0 (fun _ _ h => h) (hK41 _ _ _ _ _ ?_))
                  clear hK41
                  refine wp_reg ?_
                  refine ol_r (r_add rfl rfl (by omega)) rfl ?_
                  refine ol_r (r_move rfl) rfl ?_
                  refine ol_nil (to_k0 (fun _ _ h => h) (hK38 (k + 1) _ _ ?_ ?_ (sub_cons rfl (sub_cons rfl sub_nil)) (sub_cons rfl (sub_cons rfl (sub_cons rfl (sub_cons rfl (sub_cons rfl (sub_cons rfl (sub_cons rfl (sub_cons rfl (sub_cons rfl sub_nil))))))))) (by exact (subH_row rfl (by (first | exact congrArg encI.enc (apRow_1' hD hx72 hx96 (by omega) (by omega)) | exact congrArg encI.enc (apRow_2' hD hx72 (by omega) (by omega)) | exact congrArg encI.enc (apRow_3' hD hx87 (by omega) (by omega) (by omega)) | exact congrArg encI.enc (apRow_4' hD (by omega) (by omega) (by omega) (by omega)))) subH_nil)) (subH_same rfl subH_nil)))
                  ·try dsimp only
                   omega
                  ·try dsimp only
                   omega
                 ·refine wp_skip' (to_k0 (fun _ _ h => h) (hK44 _ _ _ _ _ ?_))
                  clear hK44
                  refine wp_seq' fun K60 hK60 => ?_
                  refine wp_reg ?_
                  refine ol_r (r_move rfl) rfl ?_
                  refine ol_r (r_move rfl) rfl ?_
                  refine ol_ixo (id := 55) encI _ rfl rfl rfl rfl sl47 (by omega) rfl fun x102 hx102 => ?_
                  try simp only [Int.toNat_natCast] at hx102
                  try simp only [Int.toNat_natCast] at hx102
                  refine ol_r (r_ldw rfl (fun w1 hb1 hs1 hB1 => show Loads _ _ _ _ (.int .i64 x102) from ld_own (id := 55) hs1 rfl rfl ty3 hx102)) rfl ?_
                  refine ol_r (r_assign rfl) rfl ?_
                  refine ol_nil (to_k0 (fun _ _ h => h) (hK60 _ _ _ _ _ ?_))
                  clear hK60
                  refine wp_rega [(999, [(12, _), (15, _)]), (18, [(55, _)])] (by kernel_rfl) ⟨.inr (subH_same rfl (subH_same rfl subH_nil)), ⟨.inr (subH_same rfl subH_nil), trivial⟩⟩ ?_
                  have h103 := (tab_get hx102).2
                  rw [← apBef_succ] at h103
                  subst h103
                  refine aq_r 0 999 rfl (by kernel_rfl) (by kernel_rfl) (by kernel_rfl) (.head _) (by kernel_rfl) (by kernel_rfl) rfl (r_move rfl) ?_
                  refine aq_r 1 999 rfl (by kernel_rfl) (by kernel_rfl) (by kernel_rfl) (.head _) (by kernel_rfl) (by kernel_rfl) rfl (r_move rfl) ?_
                  refine aq_r 2 999 rfl (by kernel_rfl) (by kernel_rfl) (by kernel_rfl) (.head _) (by kernel_rfl) (by kernel_rfl) rfl (r_move rfl) ?_
                  refine aq_r 3 999 rfl (by kernel_rfl) (by kernel_rfl) (by kernel_rfl) (.head _) (by kernel_rfl) (by kernel_rfl) rfl (r_fa (o' := 0) rfl fl62_0 rfl) ?_
                  refine aq_r 4 999 rfl (by kernel_rfl) (by kernel_rfl) (by kernel_rfl) (.head _) (by kernel_rfl) (by kernel_rfl) rfl (r_ld (id := 12) rfl rfl rfl sc3) ?_
                  refine aq_r 5 999 rfl (by kernel_rfl) (by kernel_rfl) (by kernel_rfl) (.head _) (by kernel_rfl) (by kernel_rfl) rfl (r_fa (o' := 0) rfl fl62_0 rfl) ?_
                  refine aq_r 6 999 rfl (by kernel_rfl) (by kernel_rfl) (by kernel_rfl) (.head _) (by kernel_rfl) (by kernel_rfl) rfl (r_ld (id := 15) rfl rfl rfl sc3) ?_
                  refine aq_r 7 999 rfl (by kernel_rfl) (by kernel_rfl) (by kernel_rfl) (.head _) (by kernel_rfl) (by kernel_rfl) rfl (r_sub rfl rfl (by omega)) ?_
                  refine aq_r 9 999 rfl (by kernel_rfl) (by kernel_rfl) (by kernel_rfl) (.head _) (by kernel_rfl) (by kernel_rfl) rfl (r_fa (o' := 1) rfl fl62_1 rfl) ?_
                  refine aq_r 10 999 rfl (by kernel_rfl) (by kernel_rfl) (by kernel_rfl) (.head _) (by kernel_rfl) (by kernel_rfl) rfl (r_ld (id := 12) rfl rfl rfl sc3) ?_
                  refine aq_r 11 999 rfl (by kernel_rfl) (by kernel_rfl) (by kernel_rfl) (.head _) (by kernel_rfl) (by kernel_rfl) rfl (r_fa (o' := 1) rfl fl62_1 rfl) ?_
                  refine aq_r 12 999 rfl (by kernel_rfl) (by kernel_rfl) (by kernel_rfl) (.head _) (by kernel_rfl) (by kernel_rfl) rfl (r_ld (id := 15) rfl rfl rfl sc3) ?_
                  refine aq_r 13 999 rfl (by kernel_rfl) (by kernel_rfl) (by kernel_rfl) (.head _) (by kernel_rfl) (by kernel_rfl) rfl (r_sub rfl rfl (by omega)) ?_
                  refine aq_one (i := 8) (by kernel_rfl) rfl fun K61 hK61 => ?_
                  refine ol_call rfl rfl cb68 rfl (fun w1 hb1 hs1 hB1 => Calls.mono (ref5_square _ _ (by omega)) ?_)
                  rintro e w2 ⟨rfl, hb2⟩
                  refine After.below rfl hb1 hs1 hB1 hb2 ?_
                  clear hb2 hB1 hs1 hb1 w2 w1
                  refine ol_nil (to_k0 (fun _ _ h => h) (hK61 _ _ ⟨.inr (by repeat' first | exact subH_nil | refine subH_same rfl ?_ | (refine subH_blk rfl (by repeat' first | exact sub_nil | refine sub_cons rfl ?_) ?_)), ⟨.inr (by repeat' first | exact subH_nil | refine subH_same rfl ?_ | (refine subH_blk rfl (by repeat' first | exact sub_nil | refine sub_cons rfl ?_) ?_)), trivial⟩⟩ ?_))
                  clear hK61
                  refine aq_one (i := 14) (by kernel_rfl) rfl fun K62 hK62 => ?_
                  refine ol_call rfl rfl cb68 rfl (fun w1 hb1 hs1 hB1 => Calls.mono (ref5_square _ _ (by omega)) ?_)
                  rintro e w2 ⟨rfl, hb2⟩
                  refine After.below rfl hb1 hs1 hB1 hb2 ?_
                  clear hb2 hB1 hs1 hb1 w2 w1
                  refine ol_nil (to_k0 (fun _ _ h => h) (hK62 _ _ ⟨.inr (by repeat' first | exact subH_nil | refine subH_same rfl ?_ | (refine subH_blk rfl (by repeat' first | exact sub_nil | refine sub_cons rfl ?_) ?_)), ⟨.inr (by repeat' first | exact subH_nil | refine subH_same rfl ?_ | (refine subH_blk rfl (by repeat' first | exact sub_nil | refine sub_cons rfl ?_) ?_)), trivial⟩⟩ ?_))
                  clear hK62
                  refine aq_r 15 999 rfl (by kernel_rfl) (by kernel_rfl) (by kernel_rfl) (.head _) (by kernel_rfl) (by kernel_rfl) rfl (r_add rfl rfl (by omega)) ?_
                  refine aq_r 16 999 rfl (by kernel_rfl) (by kernel_rfl) (by kernel_rfl) (.head _) (by kernel_rfl) (by kernel_rfl) rfl (r_max rfl rfl) ?_
                  refine aq_ixo 17 18 rfl (by kernel_rfl) (by kernel_rfl) (by kernel_rfl) (.tail _ (.head _)) (by kernel_rfl) (by kernel_rfl) rfl (id := 55) encI _ rfl rfl rfl rfl sl47 (by omega) (by omega) fun x121 hx121 => ?_
                  try simp only [Int.toNat_natCast] at hx121
                  try simp only [Int.toNat_natCast] at hx121
                  refine aq_one (i := 18) (by kernel_rfl) rfl fun K63 hK63 => ?_
                  refine ol_storeRow (id := 55) _ _ _ rfl rfl rfl rfl sz3 (by omega) ?_
                  refine ol_nil (to_k0 (fun _ _ h => h) (hK63 _ _ ⟨.inr (by repeat' first | exact subH_nil | refine subH_same rfl ?_ | (refine subH_blk rfl (by repeat' first | exact sub_nil | refine sub_cons rfl ?_) ?_)), ⟨.inl (by kernel_rfl), trivial⟩⟩ ?_))
                  clear hK63
                  refine aq_done (by kernel_rfl) ?_
                  refine (to_k0 (fun _ _ h => h) (hK41 _ _ _ _ _ ?_))
                  clear hK41
                  refine wp_reg ?_
                  refine ol_r (r_add rfl rfl (by omega)) rfl ?_
                  refine ol_r (r_move rfl) rfl ?_
                  refine ol_nil (to_k0 (fun _ _ h => h) (hK38 (k + 1) _ _ ?_ ?_ (sub_cons rfl (sub_cons rfl sub_nil)) (sub_cons rfl (sub_cons rfl (sub_cons rfl (sub_cons rfl (sub_cons rfl (sub_cons rfl (sub_cons rfl (sub_cons rfl (sub_cons rfl sub_nil))))))))) (by exact (subH_row rfl (by (first | exact congrArg encI.enc (apRow_1' hD hx72 hx96 (by omega) (by omega)) | exact congrArg encI.enc (apRow_2' hD hx72 (by omega) (by omega)) | exact congrArg encI.enc (apRow_3' hD hx87 (by omega) (by omega) (by omega)) | exact congrArg encI.enc (apRow_4' hD (by omega) (by omega) (by omega) (by omega)))) subH_nil)) (subH_same rfl subH_nil)))
                  ·try dsimp only
                   omega
                  ·try dsimp only
                   omega
              ·have phs77 := hs77; try simp only [decide_eq_true_eq, decide_eq_false_iff_not, Bool.not_eq_true', Bool.not_eq_false', Bool.not_true, Bool.not_false] at phs77
               refine ol_s rfl rfl hs77 rfl ?_
               refine ol_s rfl rfl hs77 rfl ?_
               refine ol_r (r_pickF rfl hs77 rfl) rfl ?_
               refine ol_r (r_assign rfl) rfl ?_
               refine ol_nil (to_k0 (fun _ _ h => h) (hK45 _ _ _ _ _ ?_))
               clear hK45
               refine wp_condF rfl ?_
               refine wp_seq' fun K64 hK64 => ?_
               refine wp_reg ?_
               refine ol_r (r_move rfl) rfl ?_
               refine ol_r (r_eql rfl rfl) rfl ?_
               refine ol_r (r_assign rfl) rfl ?_
               refine ol_nil (to_k0 (fun _ _ h => h) (hK64 _ _ _ _ _ ?_))
               clear hK64
               refine wp_condD rfl (fun hc81 => ?_) (fun hc81 => ?_)
               ·refine wp_reg ?_
                refine ol_r (r_move rfl) rfl ?_
                refine ol_r (r_move rfl) rfl ?_
                refine ol_r (r_sub rfl rfl (by omega)) rfl ?_
                refine ol_ixo (id := 55) encI _ rfl rfl rfl rfl sl47 (by omega) rfl fun x87 hx87 => ?_
                try simp only [Int.toNat_natCast] at hx87
                try simp only [Int.toNat_natCast] at hx87
                refine ol_r (r_ldw rfl (fun w1 hb1 hs1 hB1 => show Loads _ _ _ _ (.int .i64 x87) from ld_own (id := 55) hs1 rfl rfl ty3 hx87)) rfl ?_
                refine ol_r (r_assign rfl) rfl ?_
                refine ol_nil (to_k0 (fun _ _ h => h) (hK44 _ _ _ _ _ ?_))
                clear hK44
                refine wp_seq' fun K65 hK65 => ?_
                refine wp_reg ?_
                refine ol_r (r_move rfl) rfl ?_
                refine ol_r (r_move rfl) rfl ?_
                refine ol_ixo (id := 55) encI _ rfl rfl rfl rfl sl47 (by omega) rfl fun x102 hx102 => ?_
                try simp only [Int.toNat_natCast] at hx102
                try simp only [Int.toNat_natCast] at hx102
                refine ol_r (r_ldw rfl (fun w1 hb1 hs1 hB1 => show Loads _ _ _ _ (.int .i64 x102) from ld_own (id := 55) hs1 rfl rfl ty3 hx102)) rfl ?_
                refine ol_r (r_assign rfl) rfl ?_
                refine ol_nil (to_k0 (fun _ _ h => h) (hK65 _ _ _ _ _ ?_))
                clear hK65
                refine wp_rega [(999, [(12, _), (15, _)]), (18, [(55, _)])] (by kernel_rfl) ⟨.inr (subH_same rfl (subH_same rfl subH_nil)), ⟨.inr (subH_same rfl subH_nil), trivial⟩⟩ ?_
                have h103 := (tab_get hx102).2
                rw [← apBef_succ] at h103
                subst h103
                refine aq_r 0 999 rfl (by kernel_rfl) (by kernel_rfl) (by kernel_rfl) (.head _) (by kernel_rfl) (by kernel_rfl) rfl (r_move rfl) ?_
                refine aq_r 1 999 rfl (by kernel_rfl) (by kernel_rfl) (by kernel_rfl) (.head _) (by kernel_rfl) (by kernel_rfl) rfl (r_move rfl) ?_
                refine aq_r 2 999 rfl (by kernel_rfl) (by kernel_rfl) (by kernel_rfl) (.head _) (by kernel_rfl) (by kernel_rfl) rfl (r_move rfl) ?_
                refine aq_r 3 999 rfl (by kernel_rfl) (by kernel_rfl) (by kernel_rfl) (.head _) (by kernel_rfl) (by kernel_rfl) rfl (r_fa (o' := 0) rfl fl62_0 rfl) ?_
                refine aq_r 4 999 rfl (by kernel_rfl) (by kernel_rfl) (by kernel_rfl) (.head _) (by kernel_rfl) (by kernel_rfl) rfl (r_ld (id := 12) rfl rfl rfl sc3) ?_
                refine aq_r 5 999 rfl (by kernel_rfl) (by kernel_rfl) (by kernel_rfl) (.head _) (by kernel_rfl) (by kernel_rfl) rfl (r_fa (o' := 0) rfl fl62_0 rfl) ?_
                refine aq_r 6 999 rfl (by kernel_rfl) (by kernel_rfl) (by kernel_rfl) (.head _) (by kernel_rfl) (by kernel_rfl) rfl (r_ld (id := 15) rfl rfl rfl sc3) ?_
                refine aq_r 7 999 rfl (by kernel_rfl) (by kernel_rfl) (by kernel_rfl) (.head _) (by kernel_rfl) (by kernel_rfl) rfl (r_sub rfl rfl (by omega)) ?_
                refine aq_r 9 999 rfl (by kernel_rfl) (by kernel_rfl) (by kernel_rfl) (.head _) (by kernel_rfl) (by kernel_rfl) rfl (r_fa (o' := 1) rfl fl62_1 rfl) ?_
                refine aq_r 10 999 rfl (by kernel_rfl) (by kernel_rfl) (by kernel_rfl) (.head _) (by kernel_rfl) (by kernel_rfl) rfl (r_ld (id := 12) rfl rfl rfl sc3) ?_
                refine aq_r 11 999 rfl (by kernel_rfl) (by kernel_rfl) (by kernel_rfl) (.head _) (by kernel_rfl) (by kernel_rfl) rfl (r_fa (o' := 1) rfl fl62_1 rfl) ?_
                refine aq_r 12 999 rfl (by kernel_rfl) (by kernel_rfl) (by kernel_rfl) (.head _) (by kernel_rfl) (by kernel_rfl) rfl (r_ld (id := 15) rfl rfl rfl sc3) ?_
                refine aq_r 13 999 rfl (by kernel_rfl) (by kernel_rfl) (by kernel_rfl) (.head _) (by kernel_rfl) (by kernel_rfl) rfl (r_sub rfl rfl (by omega)) ?_
                refine aq_one (i := 8) (by kernel_rfl) rfl fun K66 hK66 => ?_
                refine ol_call rfl rfl cb68 rfl (fun w1 hb1 hs1 hB1 => Calls.mono (ref5_square _ _ (by omega)) ?_)
                rintro e w2 ⟨rfl, hb2⟩
                refine After.below rfl hb1 hs1 hB1 hb2 ?_
                clear hb2 hB1 hs1 hb1 w2 w1
                refine ol_nil (to_k0 (fun _ _ h => h) (hK66 _ _ ⟨.inr (by repeat' first | exact subH_nil | refine subH_same rfl ?_ | (refine subH_blk rfl (by repeat' first | exact sub_nil | refine sub_cons rfl ?_) ?_)), ⟨.inr (by repeat' first | exact subH_nil | refine subH_same rfl ?_ | (refine subH_blk rfl (by repeat' first | exact sub_nil | refine sub_cons rfl ?_) ?_)), trivial⟩⟩ ?_))
                clear hK66
                refine aq_one (i := 14) (by kernel_rfl) rfl fun K67 hK67 => ?_
                refine ol_call rfl rfl cb68 rfl (fun w1 hb1 hs1 hB1 => Calls.mono (ref5_square _ _ (by omega)) ?_)
                rintro e w2 ⟨rfl, hb2⟩
                refine After.below rfl hb1 hs1 hB1 hb2 ?_
                clear hb2 hB1 hs1 hb1 w2 w1
                refine ol_nil (to_k0 (fun _ _ h => h) (hK67 _ _ ⟨.inr (by repeat' first | exact subH_nil | refine subH_same rfl ?_ | (refine subH_blk rfl (by repeat' first | exact sub_nil | refine sub_cons rfl ?_) ?_)), ⟨.inr (by repeat' first | exact subH_nil | refine subH_same rfl ?_ | (refine subH_blk rfl (by repeat' first | exact sub_nil | refine sub_cons rfl ?_) ?_)), trivial⟩⟩ ?_))
                clear hK67
                refine aq_r 15 999 rfl (by kernel_rfl) (by kernel_rfl) (by kernel_rfl) (.head _) (by kernel_rfl) (by kernel_rfl) rfl (r_add rfl rfl (by omega)) ?_
                refine aq_r 16 999 rfl (by kernel_rfl) (by kernel_rfl) (by kernel_rfl) (.head _) (by kernel_rfl) (by kernel_rfl) rfl (r_max rfl rfl) ?_
                refine aq_ixo 17 18 rfl (by kernel_rfl) (by kernel_rfl) (by kernel_rfl) (.tail _ (.head _)) (by kernel_rfl) (by kernel_rfl) rfl (id := 55) encI _ rfl rfl rfl rfl sl47 (by omega) (by omega) fun x121 hx121 => ?_
                try simp only [Int.toNat_natCast] at hx121
                try simp only [Int.toNat_natCast] at hx121
                refine aq_one (i := 18) (by kernel_rfl) rfl fun K68 hK68 => ?_
                refine ol_storeRow (id := 55) _ _ _ rfl rfl rfl rfl sz3 (by omega) ?_
                refine ol_nil (to_k0 (fun _ _ h => h) (hK68 _ _ ⟨.inr (by repeat' first | exact subH_nil | refine subH_same rfl ?_ | (refine subH_blk rfl (by repeat' first | exact sub_nil | refine sub_cons rfl ?_) ?_)), ⟨.inl (by kernel_rfl), trivial⟩⟩ ?_))
                clear hK68
                refine aq_done (by kernel_rfl) ?_
                refine (to_k0 (fun _ _ h => h) (hK41 _ _ _ _ _ ?_))
                clear hK41
                refine wp_reg ?_
                refine ol_r (r_add rfl rfl (by omega)) rfl ?_
                refine ol_r (r_move rfl) rfl ?_
                refine ol_nil (to_k0 (fun _ _ h => h) (hK38 (k + 1) _ _ ?_ ?_ (sub_cons rfl (sub_cons rfl sub_nil)) (sub_cons rfl (sub_cons rfl (sub_cons rfl (sub_cons rfl (sub_cons rfl (sub_cons rfl (sub_cons rfl (sub_cons rfl (sub_cons rfl sub_nil))))))))) (by exact (subH_row rfl (by (first | exact congrArg encI.enc (apRow_1' hD hx72 hx96 (by omega) (by omega)) | exact congrArg encI.enc (apRow_2' hD hx72 (by omega) (by omega)) | exact congrArg encI.enc (apRow_3' hD hx87 (by omega) (by omega) (by omega)) | exact congrArg encI.enc (apRow_4' hD (by omega) (by omega) (by omega) (by omega)))) subH_nil)) (subH_same rfl subH_nil)))
                ·try dsimp only
                 omega
                ·try dsimp only
                 omega
               ·refine wp_seq' fun K69 hK69 => ?_
                refine wp_reg ?_
                refine ol_r (r_move rfl) rfl ?_
                refine ol_r (r_gtr rfl rfl) rfl ?_
                refine ol_r (r_assign rfl) rfl ?_
                refine ol_nil (to_k0 (fun _ _ h => h) (hK69 _ _ _ _ _ ?_))
                clear hK69
                refine wp_condD rfl (fun hc89 => ?_) (fun hc89 => ?_)
                ·refine wp_reg ?_
                 refine ol_r (r_move rfl) rfl ?_
                 refine ol_r (r_move rfl) rfl ?_
                 refine ol_r (r_move rfl) rfl ?_
                 refine ol_r (r_sub rfl rfl (by omega)) rfl ?_
                 refine ol_ixo (id := 55) encI _ rfl rfl rfl rfl sl47 (by omega) rfl fun x96 hx96 => ?_
                 try simp only [Int.toNat_natCast] at hx96
                 try simp only [Int.toNat_natCast] at hx96
                 refine ol_r (r_ldw rfl (fun w1 hb1 hs1 hB1 => show Loads _ _ _ _ (.int .i64 x96) from ld_own (id := 55) hs1 rfl rfl ty3 hx96)) rfl ?_
                 refine ol_r (r_move rfl) rfl ?_
                 refine ol_r (r_min3 rfl rfl rfl) rfl ?_
                 refine ol_r (r_assign rfl) rfl ?_
                 refine ol_nil (to_k0 (fun _ _ h => h) (hK44 _ _ _ _ _ ?_))
                 clear hK44
                 refine wp_seq' fun K70 hK70 => ?_
                 refine wp_reg ?_
                 refine ol_r (r_move rfl) rfl ?_
                 refine ol_r (r_move rfl) rfl ?_
                 refine ol_ixo (id := 55) encI _ rfl rfl rfl rfl sl47 (by omega) rfl fun x102 hx102 => ?_
                 try simp only [Int.toNat_natCast] at hx102
                 try simp only [Int.toNat_natCast] at hx102
                 refine ol_r (r_ldw rfl (fun w1 hb1 hs1 hB1 => show Loads _ _ _ _ (.int .i64 x102) from ld_own (id := 55) hs1 rfl rfl ty3 hx102)) rfl ?_
                 refine ol_r (r_assign rfl) rfl ?_
                 refine ol_nil (to_k0 (fun _ _ h => h) (hK70 _ _ _ _ _ ?_))
                 clear hK70
                 refine wp_rega [(999, [(12, _), (15, _)]), (18, [(55, _)])] (by kernel_rfl) ⟨.inr (subH_same rfl (subH_same rfl subH_nil)), ⟨.inr (subH_same rfl subH_nil), trivial⟩⟩ ?_
                 have h103 := (tab_get hx102).2
                 rw [← apBef_succ] at h103
                 subst h103
                 refine aq_r 0 999 rfl (by kernel_rfl) (by kernel_rfl) (by kernel_rfl) (.head _) (by kernel_rfl) (by kernel_rfl) rfl (r_move rfl) ?_
                 refine aq_r 1 999 rfl (by kernel_rfl) (by kernel_rfl) (by kernel_rfl) (.head _) (by kernel_rfl) (by kernel_rfl) rfl (r_move rfl) ?_
                 refine aq_r 2 999 rfl (by kernel_rfl) (by kernel_rfl) (by kernel_rfl) (.head _) (by kernel_rfl) (by kernel_rfl) rfl (r_move rfl) ?_
                 refine aq_r 3 999 rfl (by kernel_rfl) (by kernel_rfl) (by kernel_rfl) (.head _) (by kernel_rfl) (by kernel_rfl) rfl (r_fa (o' := 0) rfl fl62_0 rfl) ?_
                 refine aq_r 4 999 rfl (by kernel_rfl) (by kernel_rfl) (by kernel_rfl) (.head _) (by kernel_rfl) (by kernel_rfl) rfl (r_ld (id := 12) rfl rfl rfl sc3) ?_
                 refine aq_r 5 999 rfl (by kernel_rfl) (by kernel_rfl) (by kernel_rfl) (.head _) (by kernel_rfl) (by kernel_rfl) rfl (r_fa (o' := 0) rfl fl62_0 rfl) ?_
                 refine aq_r 6 999 rfl (by kernel_rfl) (by kernel_rfl) (by kernel_rfl) (.head _) (by kernel_rfl) (by kernel_rfl) rfl (r_ld (id := 15) rfl rfl rfl sc3) ?_
                 refine aq_r 7 999 rfl (by kernel_rfl) (by kernel_rfl) (by kernel_rfl) (.head _) (by kernel_rfl) (by kernel_rfl) rfl (r_sub rfl rfl (by omega)) ?_
                 refine aq_r 9 999 rfl (by kernel_rfl) (by kernel_rfl) (by kernel_rfl) (.head _) (by kernel_rfl) (by kernel_rfl) rfl (r_fa (o' := 1) rfl fl62_1 rfl) ?_
                 refine aq_r 10 999 rfl (by kernel_rfl) (by kernel_rfl) (by kernel_rfl) (.head _) (by kernel_rfl) (by kernel_rfl) rfl (r_ld (id := 12) rfl rfl rfl sc3) ?_
                 refine aq_r 11 999 rfl (by kernel_rfl) (by kernel_rfl) (by kernel_rfl) (.head _) (by kernel_rfl) (by kernel_rfl) rfl (r_fa (o' := 1) rfl fl62_1 rfl) ?_
                 refine aq_r 12 999 rfl (by kernel_rfl) (by kernel_rfl) (by kernel_rfl) (.head _) (by kernel_rfl) (by kernel_rfl) rfl (r_ld (id := 15) rfl rfl rfl sc3) ?_
                 refine aq_r 13 999 rfl (by kernel_rfl) (by kernel_rfl) (by kernel_rfl) (.head _) (by kernel_rfl) (by kernel_rfl) rfl (r_sub rfl rfl (by omega)) ?_
                 refine aq_one (i := 8) (by kernel_rfl) rfl fun K71 hK71 => ?_
                 refine ol_call rfl rfl cb68 rfl (fun w1 hb1 hs1 hB1 => Calls.mono (ref5_square _ _ (by omega)) ?_)
                 rintro e w2 ⟨rfl, hb2⟩
                 refine After.below rfl hb1 hs1 hB1 hb2 ?_
                 clear hb2 hB1 hs1 hb1 w2 w1
                 refine ol_nil (to_k0 (fun _ _ h => h) (hK71 _ _ ⟨.inr (by repeat' first | exact subH_nil | refine subH_same rfl ?_ | (refine subH_blk rfl (by repeat' first | exact sub_nil | refine sub_cons rfl ?_) ?_)), ⟨.inr (by repeat' first | exact subH_nil | refine subH_same rfl ?_ | (refine subH_blk rfl (by repeat' first | exact sub_nil | refine sub_cons rfl ?_) ?_)), trivial⟩⟩ ?_))
                 clear hK71
                 refine aq_one (i := 14) (by kernel_rfl) rfl fun K72 hK72 => ?_
                 refine ol_call rfl rfl cb68 rfl (fun w1 hb1 hs1 hB1 => Calls.mono (ref5_square _ _ (by omega)) ?_)
                 rintro e w2 ⟨rfl, hb2⟩
                 refine After.below rfl hb1 hs1 hB1 hb2 ?_
                 clear hb2 hB1 hs1 hb1 w2 w1
                 refine ol_nil (to_k0 (fun _ _ h => h) (hK72 _ _ ⟨.inr (by repeat' first | exact subH_nil | refine subH_same rfl ?_ | (refine subH_blk rfl (by repeat' first | exact sub_nil | refine sub_cons rfl ?_) ?_)), ⟨.inr (by repeat' first | exact subH_nil | refine subH_same rfl ?_ | (refine subH_blk rfl (by repeat' first | exact sub_nil | refine sub_cons rfl ?_) ?_)), trivial⟩⟩ ?_))
                 clear hK72
                 refine aq_r 15 999 rfl (by kernel_rfl) (by kernel_rfl) (by kernel_rfl) (.head _) (by kernel_rfl) (by kernel_rfl) rfl (r_add rfl rfl (by omega)) ?_
                 refine aq_r 16 999 rfl (by kernel_rfl) (by kernel_rfl) (by kernel_rfl) (.head _) (by kernel_rfl) (by kernel_rfl) rfl (r_max rfl rfl) ?_
                 refine aq_ixo 17 18 rfl (by kernel_rfl) (by kernel_rfl) (by kernel_rfl) (.tail _ (.head _)) (by kernel_rfl) (by kernel_rfl) rfl (id := 55) encI _ rfl rfl rfl rfl sl47 (by omega) (by omega) fun x121 hx121 => ?_
                 try simp only [Int.toNat_natCast] at hx121
                 try simp only [Int.toNat_natCast] at hx121
                 refine aq_one (i := 18) (by kernel_rfl) rfl fun K73 hK73 => ?_
                 refine ol_storeRow (id := 55) _ _ _ rfl rfl rfl rfl sz3 (by omega) ?_
                 refine ol_nil (to_k0 (fun _ _ h => h) (hK73 _ _ ⟨.inr (by repeat' first | exact subH_nil | refine subH_same rfl ?_ | (refine subH_blk rfl (by repeat' first | exact sub_nil | refine sub_cons rfl ?_) ?_)), ⟨.inl (by kernel_rfl), trivial⟩⟩ ?_))
                 clear hK73
                 refine aq_done (by kernel_rfl) ?_
                 refine (to_k0 (fun _ _ h => h) (hK41 _ _ _ _ _ ?_))
                 clear hK41
                 refine wp_reg ?_
                 refine ol_r (r_add rfl rfl (by omega)) rfl ?_
                 refine ol_r (r_move rfl) rfl ?_
                 refine ol_nil (to_k0 (fun _ _ h => h) (hK38 (k + 1) _ _ ?_ ?_ (sub_cons rfl (sub_cons rfl sub_nil)) (sub_cons rfl (sub_cons rfl (sub_cons rfl (sub_cons rfl (sub_cons rfl (sub_cons rfl (sub_cons rfl (sub_cons rfl (sub_cons rfl sub_nil))))))))) (by exact (subH_row rfl (by (first | exact congrArg encI.enc (apRow_1' hD hx72 hx96 (by omega) (by omega)) | exact congrArg encI.enc (apRow_2' hD hx72 (by omega) (by omega)) | exact congrArg encI.enc (apRow_3' hD hx87 (by omega) (by omega) (by omega)) | exact congrArg encI.enc (apRow_4' hD (by omega) (by omega) (by omega) (by omega)))) subH_nil)) (subH_same rfl subH_nil)))
                 ·try dsimp only
                  omega
                 ·try dsimp only
                  omega
                ·refine wp_skip' (to_k0 (fun _ _ h => h) (hK44 _ _ _ _ _ ?_))
                 clear hK44
                 refine wp_seq' fun K74 hK74 => ?_
                 refine wp_reg ?_
                 refine ol_r (r_move rfl) rfl ?_
                 refine ol_r (r_move rfl) rfl ?_
                 refine ol_ixo (id := 55) encI _ rfl rfl rfl rfl sl47 (by omega) rfl fun x102 hx102 => ?_
                 try simp only [Int.toNat_natCast] at hx102
                 try simp only [Int.toNat_natCast] at hx102
                 refine ol_r (r_ldw rfl (fun w1 hb1 hs1 hB1 => show Loads _ _ _ _ (.int .i64 x102) from ld_own (id := 55) hs1 rfl rfl ty3 hx102)) rfl ?_
                 refine ol_r (r_assign rfl) rfl ?_
                 refine ol_nil (to_k0 (fun _ _ h => h) (hK74 _ _ _ _ _ ?_))
                 clear hK74
                 refine wp_rega [(999, [(12, _), (15, _)]), (18, [(55, _)])] (by kernel_rfl) ⟨.inr (subH_same rfl (subH_same rfl subH_nil)), ⟨.inr (subH_same rfl subH_nil), trivial⟩⟩ ?_
                 have h103 := (tab_get hx102).2
                 rw [← apBef_succ] at h103
                 subst h103
                 refine aq_r 0 999 rfl (by kernel_rfl) (by kernel_rfl) (by kernel_rfl) (.head _) (by kernel_rfl) (by kernel_rfl) rfl (r_move rfl) ?_
                 refine aq_r 1 999 rfl (by kernel_rfl) (by kernel_rfl) (by kernel_rfl) (.head _) (by kernel_rfl) (by kernel_rfl) rfl (r_move rfl) ?_
                 refine aq_r 2 999 rfl (by kernel_rfl) (by kernel_rfl) (by kernel_rfl) (.head _) (by kernel_rfl) (by kernel_rfl) rfl (r_move rfl) ?_
                 refine aq_r 3 999 rfl (by kernel_rfl) (by kernel_rfl) (by kernel_rfl) (.head _) (by kernel_rfl) (by kernel_rfl) rfl (r_fa (o' := 0) rfl fl62_0 rfl) ?_
                 refine aq_r 4 999 rfl (by kernel_rfl) (by kernel_rfl) (by kernel_rfl) (.head _) (by kernel_rfl) (by kernel_rfl) rfl (r_ld (id := 12) rfl rfl rfl sc3) ?_
                 refine aq_r 5 999 rfl (by kernel_rfl) (by kernel_rfl) (by kernel_rfl) (.head _) (by kernel_rfl) (by kernel_rfl) rfl (r_fa (o' := 0) rfl fl62_0 rfl) ?_
                 refine aq_r 6 999 rfl (by kernel_rfl) (by kernel_rfl) (by kernel_rfl) (.head _) (by kernel_rfl) (by kernel_rfl) rfl (r_ld (id := 15) rfl rfl rfl sc3) ?_
                 refine aq_r 7 999 rfl (by kernel_rfl) (by kernel_rfl) (by kernel_rfl) (.head _) (by kernel_rfl) (by kernel_rfl) rfl (r_sub rfl rfl (by omega)) ?_
                 refine aq_r 9 999 rfl (by kernel_rfl) (by kernel_rfl) (by kernel_rfl) (.head _) (by kernel_rfl) (by kernel_rfl) rfl (r_fa (o' := 1) rfl fl62_1 rfl) ?_
                 refine aq_r 10 999 rfl (by kernel_rfl) (by kernel_rfl) (by kernel_rfl) (.head _) (by kernel_rfl) (by kernel_rfl) rfl (r_ld (id := 12) rfl rfl rfl sc3) ?_
                 refine aq_r 11 999 rfl (by kernel_rfl) (by kernel_rfl) (by kernel_rfl) (.head _) (by kernel_rfl) (by kernel_rfl) rfl (r_fa (o' := 1) rfl fl62_1 rfl) ?_
                 refine aq_r 12 999 rfl (by kernel_rfl) (by kernel_rfl) (by kernel_rfl) (.head _) (by kernel_rfl) (by kernel_rfl) rfl (r_ld (id := 15) rfl rfl rfl sc3) ?_
                 refine aq_r 13 999 rfl (by kernel_rfl) (by kernel_rfl) (by kernel_rfl) (.head _) (by kernel_rfl) (by kernel_rfl) rfl (r_sub rfl rfl (by omega)) ?_
                 refine aq_one (i := 8) (by kernel_rfl) rfl fun K75 hK75 => ?_
                 refine ol_call rfl rfl cb68 rfl (fun w1 hb1 hs1 hB1 => Calls.mono (ref5_square _ _ (by omega)) ?_)
                 rintro e w2 ⟨rfl, hb2⟩
                 refine After.below rfl hb1 hs1 hB1 hb2 ?_
                 clear hb2 hB1 hs1 hb1 w2 w1
                 refine ol_nil (to_k0 (fun _ _ h => h) (hK75 _ _ ⟨.inr (by repeat' first | exact subH_nil | refine subH_same rfl ?_ | (refine subH_blk rfl (by repeat' first | exact sub_nil | refine sub_cons rfl ?_) ?_)), ⟨.inr (by repeat' first | exact subH_nil | refine subH_same rfl ?_ | (refine subH_blk rfl (by repeat' first | exact sub_nil | refine sub_cons rfl ?_) ?_)), trivial⟩⟩ ?_))
                 clear hK75
                 refine aq_one (i := 14) (by kernel_rfl) rfl fun K76 hK76 => ?_
                 refine ol_call rfl rfl cb68 rfl (fun w1 hb1 hs1 hB1 => Calls.mono (ref5_square _ _ (by omega)) ?_)
                 rintro e w2 ⟨rfl, hb2⟩
                 refine After.below rfl hb1 hs1 hB1 hb2 ?_
                 clear hb2 hB1 hs1 hb1 w2 w1
                 refine ol_nil (to_k0 (fun _ _ h => h) (hK76 _ _ ⟨.inr (by repeat' first | exact subH_nil | refine subH_same rfl ?_ | (refine subH_blk rfl (by repeat' first | exact sub_nil | refine sub_cons rfl ?_) ?_)), ⟨.inr (by repeat' first | exact subH_nil | refine subH_same rfl ?_ | (refine subH_blk rfl (by repeat' first | exact sub_nil | refine sub_cons rfl ?_) ?_)), trivial⟩⟩ ?_))
                 clear hK76
                 refine aq_r 15 999 rfl (by kernel_rfl) (by kernel_rfl) (by kernel_rfl) (.head _) (by kernel_rfl) (by kernel_rfl) rfl (r_add rfl rfl (by omega)) ?_
                 refine aq_r 16 999 rfl (by kernel_rfl) (by kernel_rfl) (by kernel_rfl) (.head _) (by kernel_rfl) (by kernel_rfl) rfl (r_max rfl rfl) ?_
                 refine aq_ixo 17 18 rfl (by kernel_rfl) (by kernel_rfl) (by kernel_rfl) (.tail _ (.head _)) (by kernel_rfl) (by kernel_rfl) rfl (id := 55) encI _ rfl rfl rfl rfl sl47 (by omega) (by omega) fun x121 hx121 => ?_
                 try simp only [Int.toNat_natCast] at hx121
                 try simp only [Int.toNat_natCast] at hx121
                 refine aq_one (i := 18) (by kernel_rfl) rfl fun K77 hK77 => ?_
                 refine ol_storeRow (id := 55) _ _ _ rfl rfl rfl rfl sz3 (by omega) ?_
                 refine ol_nil (to_k0 (fun _ _ h => h) (hK77 _ _ ⟨.inr (by repeat' first | exact subH_nil | refine subH_same rfl ?_ | (refine subH_blk rfl (by repeat' first | exact sub_nil | refine sub_cons rfl ?_) ?_)), ⟨.inl (by kernel_rfl), trivial⟩⟩ ?_))
                 clear hK77
                 refine aq_done (by kernel_rfl) ?_
                 refine (to_k0 (fun _ _ h => h) (hK41 _ _ _ _ _ ?_))
                 clear hK41
                 refine wp_reg ?_
                 refine ol_r (r_add rfl rfl (by omega)) rfl ?_
                 refine ol_r (r_move rfl) rfl ?_
                 refine ol_nil (to_k0 (fun _ _ h => h) (hK38 (k + 1) _ _ ?_ ?_ (sub_cons rfl (sub_cons rfl sub_nil)) (sub_cons rfl (sub_cons rfl (sub_cons rfl (sub_cons rfl (sub_cons rfl (sub_cons rfl (sub_cons rfl (sub_cons rfl (sub_cons rfl sub_nil))))))))) (by exact (subH_row rfl (by (first | exact congrArg encI.enc (apRow_1' hD hx72 hx96 (by omega) (by omega)) | exact congrArg encI.enc (apRow_2' hD hx72 (by omega) (by omega)) | exact congrArg encI.enc (apRow_3' hD hx87 (by omega) (by omega) (by omega)) | exact congrArg encI.enc (apRow_4' hD (by omega) (by omega) (by omega) (by omega)))) subH_nil)) (subH_same rfl subH_nil)))
                 ·try dsimp only
                  omega
                 ·try dsimp only
                  omega
             ·refine wp_exit' (to_k0 (fun _ _ h => h) (hK34 _ _ _ _ _ ?_))
              clear hK34
              refine wp_reg ?_
              refine ol_r (r_add rfl rfl (by omega)) rfl ?_
              refine ol_r (r_move rfl) rfl ?_
              refine ol_nil (to_k0 (fun _ _ h => h) (hK31 (i + 1) _ _ ?_ ?_ (sub_cons rfl sub_nil) (sub_cons rfl (sub_cons rfl (sub_cons rfl (sub_cons rfl sub_nil)))) (by exact (subH_row rfl (by (exact congrArg encI.enc (apRow_all (by omega)))) subH_nil)) subH_nil))
              ·try dsimp only
               omega
              ·try dsimp only
               omega
           ·refine wp_exit' (to_k0 (fun _ _ h => h) (hK29 _ _ _ _ _ ?_))
            clear hK29
            refine wp_seq' fun K78 hK78 => ?_
            refine wp_reg ?_
            obtain rfl : i = n := by omega
            refine ol_r (r_move rfl) rfl ?_
            refine ol_r (r_move rfl) rfl ?_
            refine ol_r (r_len rfl sl57) rfl ?_
            refine ol_r (r_sub rfl rfl (by omega)) rfl ?_
            refine ol_ixo (id := 55) encI _ rfl rfl rfl rfl sl47 (by omega) rfl fun x128 hx128 => ?_
            try simp only [Int.toNat_natCast] at hx128
            try simp only [Int.toNat_natCast] at hx128
            refine ol_r (r_ldw rfl (fun w1 hb1 hs1 hB1 => show Loads _ _ _ _ (.int .i64 x128) from ld_own (id := 55) hs1 rfl rfl ty3 hx128)) rfl ?_
            refine ol_r (r_assign rfl) rfl ?_
            refine ol_r (r_assign rfl) rfl ?_
            refine ol_nil (to_k0 (fun _ _ h => h) (hK78 _ _ _ _ _ ?_))
            clear hK78
            refine hQ.ret (rvs2 (rv_t rfl) (rv_t rfl)) (fun _ _ h => h) fun w hb hs hB hkd => ?_
            have h133 := (tab_get hx128).2
            have h134 : x128 = apV xs ys := by
              rw [h133, show ((m : Int) - 1).toNat = m - 1 by omega]
              unfold apRow
              rw [if_neg (by omega), if_neg (by omega), ← hxl, ← hyl]; rfl
            rw [apR_0 h0, h134]
            exact ⟨rfl, hb⟩
end Go.Proofs.Ytbbhcffkleplnaa
