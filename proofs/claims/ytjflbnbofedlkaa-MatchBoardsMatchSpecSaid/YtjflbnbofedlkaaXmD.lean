/-
  Scale: products over quotients, for numbers that are not too large; rounded up.
-/
import Derived.Sort.Grow
import Derived.Shelf.SlSortCmp.NoneTotal
import Derived.Sort.EncStr
import Derived.Lib.Bytealg
import Derived.Test.YtjflbnbofedlkaaXmA
import Derived.Test.YtjflbnbofedlkaaXmB
import Derived.Test.YtjflbnbofedlkaaXmC




namespace Go.Proofs.Ytjflbnbofedlkaa
open Go Go.RowKit Hx
set_option linter.unusedVariables false
set_option linter.unusedSimpArgs false
set_option maxRecDepth 8000
theorem cmp_isNaNu (x : Int) (w : World) : Calls Try.prog 147 #[.int .u64 x] w fun e w' => e = .returned (.bool false) ∧ Below w.heap.size w w' := by
  refine enterQ (N := 6) (C := fun _ => True) (H := []) (B := w.heap.size) (args := [_]) Try.func147 rfl rfl rfl (Nat.le_refl _) (Sat.nil _ _) fun Q hQ => ?_
  refine wp_seq' fun K1 hK1 => ?_
  refine wp_reg ?_
  refine ol_r (r_assign rfl) rfl ?_
  refine ol_nil (to_k0 (fun _ _ h => h) (hK1 _ _ _ _ _ ?_))
  clear hK1
  refine wp_seq' fun K2 hK2 => ?_
  refine wp_reg ?_
  refine ol_r (r_move rfl) rfl ?_
  refine ol_r (r_move rfl) rfl ?_
  refine ol_r (r_neq rfl rfl) rfl ?_
  refine ol_r (r_assign rfl) rfl ?_
  refine ol_nil (to_k0 (fun _ _ h => h) (hK2 _ _ _ _ _ ?_))
  clear hK2
  refine hQ.ret (rvs1 (rv_t rfl)) (fun _ _ h => h) fun w hb hs hB hkd => ?_
  exact ⟨by simp, hb⟩
def cmpI (x y : Int) : Int := if x < y then -1 else if y < x then 1 else 0
theorem cmp_Compareu (x y : Int) (w : World) : Calls Try.prog 131 #[.int .u64 x, .int .u64 y] w fun e w' => e = .returned (.int .i64 (cmpI x y)) ∧ Below w.heap.size w w' := by
  refine enterQ (N := 20) (C := fun _ => True) (H := []) (B := w.heap.size) (args := [_, _]) Try.func131 rfl rfl rfl (Nat.le_refl _) (Sat.nil _ _) fun Q hQ => ?_
  refine wp_seq' fun K1 hK1 => ?_
  refine wp_reg ?_
  refine ol_r (r_assign rfl) rfl ?_
  refine ol_nil (to_k0 (fun _ _ h => h) (hK1 _ _ _ _ _ ?_))
  clear hK1
  refine wp_seq' fun K2 hK2 => ?_
  refine wp_reg ?_
  refine ol_r (r_move rfl) rfl ?_
  refine ol_call rfl rfl cb147 rfl (fun w1 hb1 hs1 hB1 => Calls.mono (cmp_isNaNu _ _) ?_)
  rintro e w2 ⟨rfl, hb2⟩
  refine After.below rfl hb1 hs1 hB1 hb2 ?_
  clear hb2 hB1 hs1 hb1 w2 w1
  refine ol_r (r_assign rfl) rfl ?_
  refine ol_nil (to_k0 (fun _ _ h => h) (hK2 _ _ _ _ _ ?_))
  clear hK2
  refine wp_seq' fun K3 hK3 => ?_
  refine wp_reg ?_
  refine ol_r (r_move rfl) rfl ?_
  refine ol_call rfl rfl cb147 rfl (fun w1 hb1 hs1 hB1 => Calls.mono (cmp_isNaNu _ _) ?_)
  rintro e w2 ⟨rfl, hb2⟩
  refine After.below rfl hb1 hs1 hB1 hb2 ?_
  clear hb2 hB1 hs1 hb1 w2 w1
  refine ol_r (r_assign rfl) rfl ?_
  refine ol_nil (to_k0 (fun _ _ h => h) (hK3 _ _ _ _ _ ?_))
  clear hK3
  refine wp_seq' fun K4 hK4 => ?_
  refine wp_seq' fun K5 hK5 => ?_
  refine wp_reg ?_
  refine ol_r (r_move rfl) rfl ?_
  refine ol_nil (to_k0 (fun _ _ h => h) (hK5 _ _ _ _ _ ?_))
  clear hK5
  refine wp_cond' rfl (fun hc11 => ?_) (fun hc11 => ?_)
  ·refine wp_seq' fun K6 hK6 => ?_
   refine wp_seq' fun K7 hK7 => ?_
   refine wp_reg ?_
   refine ol_r (r_move rfl) rfl ?_
   refine ol_nil (to_k0 (fun _ _ h => h) (hK7 _ _ _ _ _ ?_))
   clear hK7
   refine wp_cond' rfl (fun hc12 => ?_) (fun hc12 => ?_)
   ·refine wp_seq' fun K8 hK8 => ?_
    refine wp_reg ?_
    refine ol_r (r_assign rfl) rfl ?_
    refine ol_nil (to_k0 (fun _ _ h => h) (hK8 _ _ _ _ _ ?_))
    clear hK8
    refine hQ.ret (rvs1 (rv_t rfl)) (fun _ _ h => h) fun w hb hs hB hkd => ?_
    first
      | (exfalso; simp_all; done)
   ·refine wp_skip' (to_k0 (fun _ _ h => h) (hK6 _ _ _ _ _ ?_))
    clear hK6
    refine wp_seq' fun K9 hK9 => ?_
    refine wp_reg ?_
    refine ol_r (r_assign rfl) rfl ?_
    refine ol_nil (to_k0 (fun _ _ h => h) (hK9 _ _ _ _ _ ?_))
    clear hK9
    refine hQ.ret (rvs1 (rv_t rfl)) (fun _ _ h => h) fun w hb hs hB hkd => ?_
    first
      | (exfalso; simp_all; done)
  ·refine wp_skip' (to_k0 (fun _ _ h => h) (hK4 _ _ _ _ _ ?_))
   clear hK4
   refine wp_seq' fun K10 hK10 => ?_
   refine wp_seq' fun K11 hK11 => ?_
   refine wp_reg ?_
   refine ol_r (r_move rfl) rfl ?_
   refine ol_nil (to_k0 (fun _ _ h => h) (hK11 _ _ _ _ _ ?_))
   clear hK11
   refine wp_cond' rfl (fun hc13 => ?_) (fun hc13 => ?_)
   ·refine wp_seq' fun K12 hK12 => ?_
    refine wp_reg ?_
    refine ol_r (r_assign rfl) rfl ?_
    refine ol_nil (to_k0 (fun _ _ h => h) (hK12 _ _ _ _ _ ?_))
    clear hK12
    refine hQ.ret (rvs1 (rv_t rfl)) (fun _ _ h => h) fun w hb hs hB hkd => ?_
    first
      | (exfalso; simp_all; done)
   ·refine wp_skip' (to_k0 (fun _ _ h => h) (hK10 _ _ _ _ _ ?_))
    clear hK10
    refine wp_seq' fun K13 hK13 => ?_
    refine wp_seq' fun K14 hK14 => ?_
    refine wp_reg ?_
    refine ol_r (r_move rfl) rfl ?_
    refine ol_r (r_move rfl) rfl ?_
    refine ol_r (r_lss rfl rfl) rfl ?_
    refine ol_nil (to_k0 (fun _ _ h => h) (hK14 _ _ _ _ _ ?_))
    clear hK14
    refine wp_condD rfl (fun hc16 => ?_) (fun hc16 => ?_)
    ·refine wp_seq' fun K15 hK15 => ?_
     refine wp_reg ?_
     refine ol_r (r_assign rfl) rfl ?_
     refine ol_nil (to_k0 (fun _ _ h => h) (hK15 _ _ _ _ _ ?_))
     clear hK15
     refine hQ.ret (rvs1 (rv_t rfl)) (fun _ _ h => h) fun w hb hs hB hkd => ?_
     first
       | exact ⟨by unfold cmpI; rw [if_pos (by omega)], hb⟩
    ·refine wp_skip' (to_k0 (fun _ _ h => h) (hK13 _ _ _ _ _ ?_))
     clear hK13
     refine wp_seq' fun K16 hK16 => ?_
     refine wp_seq' fun K17 hK17 => ?_
     refine wp_reg ?_
     refine ol_r (r_move rfl) rfl ?_
     refine ol_r (r_move rfl) rfl ?_
     refine ol_r (r_gtr rfl rfl) rfl ?_
     refine ol_nil (to_k0 (fun _ _ h => h) (hK17 _ _ _ _ _ ?_))
     clear hK17
     refine wp_condD rfl (fun hc19 => ?_) (fun hc19 => ?_)
     ·refine wp_seq' fun K18 hK18 => ?_
      refine wp_reg ?_
      refine ol_r (r_assign rfl) rfl ?_
      refine ol_nil (to_k0 (fun _ _ h => h) (hK18 _ _ _ _ _ ?_))
      clear hK18
      refine hQ.ret (rvs1 (rv_t rfl)) (fun _ _ h => h) fun w hb hs hB hkd => ?_
      first
        | exact ⟨by unfold cmpI; rw [if_neg (by omega), if_pos (by omega)], hb⟩
     ·refine wp_skip' (to_k0 (fun _ _ h => h) (hK16 _ _ _ _ _ ?_))
      clear hK16
      refine wp_seq' fun K19 hK19 => ?_
      refine wp_reg ?_
      refine ol_r (r_assign rfl) rfl ?_
      refine ol_nil (to_k0 (fun _ _ h => h) (hK19 _ _ _ _ _ ?_))
      clear hK19
      refine hQ.ret (rvs1 (rv_t rfl)) (fun _ _ h => h) fun w hb hs hB hkd => ?_
      first
        | exact ⟨by unfold cmpI; rw [if_neg (by omega), if_neg (by omega)], hb⟩
/-- A way of rounding, as it lies. -/
def encWay : Enc (Int × FuncId) := { size := 2, cells := fun x => [.int .i64 x.1, .func (.func x.2) #[] #[]], val := fun x => .agg #[.int .i64 x.1, .func (.func x.2) #[] #[]], len := fun _ => rfl, ones := fun _ u h => (by simp at h; rcases h with h | h <;> subst h <;> rfl), pos := by decide, vc := fun _ => rfl }
theorem ty186 : Ty Try.prog 186 encWay := .inr ⟨ag186, fun _ => rfl⟩
def waysL : List (Int × FuncId) := [(1, 148), (2, 149), (3, 150), (4, 151), (5, 152)]
theorem bd186_0_1 (x0 : Int) (g1 : FuncId) (w : World) : (Instr.build 186 #[(0, .int .i64 x0), (1, .func (.func g1) #[] #[])]).run Try.prog w = .ok (.agg #[.int .i64 x0, .func (.func g1) #[] #[]]) w := by kernel_rfl
theorem quant_ways (w : World) : Calls Try.prog 132 #[] w fun e w' => ∃ b m k, e = .returned (.slice b m k) ∧ Fresh encWay 186 w w' b m k waysL := by
  refine enterQ (N := 7) (C := fun _ => True) (H := []) (B := w.heap.size) (args := []) Try.func132 rfl rfl rfl (Nat.le_refl _) (Sat.nil _ _) fun Q hQ => ?_
  refine wp_seq' fun K1 hK1 => ?_
  refine wp_reg ?_
  refine ol_r (r_assign rfl) rfl ?_
  refine ol_nil (to_k0 (fun _ _ h => h) (hK1 _ _ _ _ _ ?_))
  clear hK1
  refine wp_seq' fun K2 hK2 => ?_
  refine wp_reg ?_
  refine ol_r (r_build rfl (fun _ => bd186_0_1 _ _ _)) rfl ?_
  refine ol_r (r_build rfl (fun _ => bd186_0_1 _ _ _)) rfl ?_
  refine ol_r (r_build rfl (fun _ => bd186_0_1 _ _ _)) rfl ?_
  refine ol_r (r_build rfl (fun _ => bd186_0_1 _ _ _)) rfl ?_
  refine ol_r (r_build rfl (fun _ => bd186_0_1 _ _ _)) rfl ?_
  refine ol_bsG (encWay.enc (waysL)) 6 rfl rw181 rfl rfl (fun _ => by kernel_rfl) rfl fun a6 => ?_
  refine ol_r (r_assign rfl) rfl ?_
  refine ol_nil (to_k0 (fun _ _ h => h) (hK2 _ _ _ _ _ ?_))
  clear hK2
  refine hQ.ret (rvs1 (rv_t rfl)) (fun _ _ h => h) fun w hb hs hB hkd => ?_
  exact ⟨_, _, _, rfl, hb, hs.ok 6 _ rfl⟩
theorem indexFunc_way (a : Option Addr) (n c1 : Nat) (xs : List (Int × FuncId)) (g : FuncId) (cv : List Value) (p : Int × FuncId → Bool) (r : Int) (w : World) (hx : Rd encWay w.heap.size w a n c1 xs) (hg : Callable Try.prog g) (hr : idxP p xs = r)
    (hf : ∀ x w', x ∈ xs → Below w.heap.size w w' → w.heap.size ≤ w'.heap.size → Calls Try.prog g ([encWay.val x] ++ cv).toArray w' fun e w2 => e = .returned (.bool (p x)) ∧ Below w'.heap.size w' w2) :
    Calls Try.prog 133 #[.slice a n c1, .func (.func g) #[] cv.toArray] w fun e w' => e = .returned (.int .i64 r) ∧ Below w.heap.size w w' := by
  have hl := hx.len
  have hfit := hx.fit
  subst hl
  subst hr
  refine enterQ (N := 19) (C := fun _ => True) (H := []) (B := w.heap.size) (args := [_, _]) Try.func133 rfl rfl rfl (Nat.le_refl _) (Sat.nil _ _) fun Q hQ => ?_
  refine wp_seq' fun K1 hK1 => ?_
  refine wp_reg ?_
  refine ol_r (r_assign rfl) rfl ?_
  refine ol_nil (to_k0 (fun _ _ h => h) (hK1 _ _ _ _ _ ?_))
  clear hK1
  refine wp_seq' fun K2 hK2 => ?_
  refine wp_seq' fun K3 hK3 => ?_
  refine wp_reg ?_
  refine ol_r (r_move rfl) rfl ?_
  refine ol_r (r_len rfl sl181) rfl ?_
  refine ol_r (r_move rfl) rfl ?_
  refine ol_nil (to_k0 (fun _ _ h => h) (hK3 _ _ _ _ _ ?_))
  clear hK3
  refine wp_block' ?_
  apply wp_loopM (σ := Nat) (fun s => s ≤ xs.length ∧ ∀ y ∈ xs.take s, p y = false) (fun s => [(8, .int .i64 s)]) [(0, _), (1, _), (7, _)] (fun s => []) [] (fun s => xs.length - s) (0)
  ·try dsimp only
   simp
  ·exact (sub_cons rfl sub_nil)
  ·exact (sub_cons rfl (sub_cons rfl (sub_cons rfl sub_nil)))
  ·exact subH_nil
  ·exact subH_nil
  ·rintro k ⟨hk, hP⟩
   intro K4 hK4
   refine wp_seq' fun K5 hK5 => ?_
   refine wp_reg ?_
   refine ol_r (r_lss rfl rfl) rfl ?_
   refine ol_nil (to_k0 (fun _ _ h => h) (hK5 _ _ _ _ _ ?_))
   clear hK5
   refine wp_seq' fun K6 hK6 => ?_
   refine wp_condD rfl (fun hc9 => ?_) (fun hc9 => ?_)
   ·refine wp_skip' (to_k0 (fun _ _ h => h) (hK6 _ _ _ _ _ ?_))
    clear hK6
    refine wp_seq' fun K7 hK7 => ?_
    refine wp_block' ?_
    refine wp_seq' fun K8 hK8 => ?_
    refine wp_reg ?_
    refine ol_r (r_move rfl) rfl ?_
    refine ol_r (r_assign rfl) rfl ?_
    refine ol_nil (to_k0 (fun _ _ h => h) (hK8 _ _ _ _ _ ?_))
    clear hK8
    refine wp_seq' fun K9 hK9 => ?_
    refine wp_reg ?_
    refine ol_r (r_move rfl) rfl ?_
    refine ol_r (r_move rfl) rfl ?_
    refine ol_r (r_move rfl) rfl ?_
    refine ol_ixr hx rfl rfl sl181 (by omega) rfl fun x14 hx14 => ?_
    try simp only [Int.toNat_natCast] at hx14
    refine ol_r (r_ldw rfl (fun w1 hb1 hs1 hB1 => Rd.loads hx ty186 hx14 hb1)) rfl ?_
    refine ol_call rfl rfl hg rfl (fun w1 hb1 hs1 hB1 => Calls.mono (hf _ _ (List.mem_of_getElem? hx14) hb1 hB1) ?_)
    rintro e w2 ⟨rfl, hb2⟩
    refine After.below rfl hb1 hs1 hB1 hb2 ?_
    clear hb2 hB1 hs1 hb1 w2 w1
    refine ol_nil (to_k0 (fun _ _ h => h) (hK9 _ _ _ _ _ ?_))
    clear hK9
    refine wp_cond' rfl (fun hc16 => ?_) (fun hc16 => ?_)
    ·refine wp_seq' fun K10 hK10 => ?_
     refine wp_reg ?_
     refine ol_r (r_move rfl) rfl ?_
     refine ol_r (r_assign rfl) rfl ?_
     refine ol_nil (to_k0 (fun _ _ h => h) (hK10 _ _ _ _ _ ?_))
     clear hK10
     refine hQ.ret (rvs1 (rv_t rfl)) (fun _ _ h => h) fun w hb hs hB hkd => ?_
     exact ⟨by rw [idxP_at hx14 hc16 hP], hb⟩
    ·refine wp_skip' (to_k0 (fun _ _ h => h) (hK7 _ _ _ _ _ ?_))
     clear hK7
     refine wp_reg ?_
     refine ol_r (r_add rfl rfl (by omega)) rfl ?_
     refine ol_r (r_move rfl) rfl ?_
     refine ol_nil (to_k0 (fun _ _ h => h) (hK4 (k + 1) _ _ ?_ ?_ (sub_cons rfl sub_nil) (sub_cons rfl (sub_cons rfl (sub_cons rfl sub_nil))) (by exact subH_nil) subH_nil))
     ·try dsimp only
      refine ⟨by omega, fun y hy => ?_⟩
      rw [take_succ_get hx14] at hy
      rcases List.mem_append.1 hy with h | h
      · exact hP y h
      · simp at h; subst h; exact hc16
     ·try dsimp only
      omega
   ·refine wp_exit' (to_k0 (fun _ _ h => h) (hK2 _ _ _ _ _ ?_))
    clear hK2
    refine wp_seq' fun K11 hK11 => ?_
    refine wp_reg ?_
    refine ol_r (r_assign rfl) rfl ?_
    refine ol_nil (to_k0 (fun _ _ h => h) (hK11 _ _ _ _ _ ?_))
    clear hK11
    refine hQ.ret (rvs1 (rv_t rfl)) (fun _ _ h => h) fun w hb hs hB hkd => ?_
    rw [List.take_of_length_le (by omega)] at hP
    exact ⟨by rw [idxP_no hP], hb⟩
theorem scale_is (x : Int × FuncId) (how : Int) (b : Nat) (w : World) (h : Blk w.heap.size w b [(0, .int .i64 how)]) :
    Calls Try.prog 134 ([encWay.val x] ++ [Value.pointer (some ⟨b, 0, none⟩)]).toArray w fun e w' => e = .returned (.bool (decide (x.1 = how))) ∧ Below w.heap.size w w' := by
  refine enterQ (N := 8) (C := fun _ => True) (H := []) (B := w.heap.size) (args := [_, _]) Try.func134 rfl rfl rfl (Nat.le_refl _) (Sat.nil _ _) fun Q hQ => ?_
  refine wp_seq' fun K1 hK1 => ?_
  refine wp_reg ?_
  refine ol_box 2 rfl rfl rfl fun b2 => ?_
  refine ol_r (r_assign rfl) rfl ?_
  refine ol_nil (to_k0 (fun _ _ h => h) (hK1 _ _ _ _ _ ?_))
  clear hK1
  refine wp_seq' fun K2 hK2 => ?_
  refine wp_reg ?_
  refine ol_r (r_fa (o' := 0) rfl fl186_0 rfl) rfl ?_
  refine ol_r (r_ld (id := 2) rfl rfl rfl sc3) rfl ?_
  refine ol_r (r_ldw rfl (fun w1 hb1 hs1 hB1 => Blk.loads (o := 0) h hb1 sc3 rfl)) rfl ?_
  refine ol_r (r_eql rfl rfl) rfl ?_
  refine ol_r (r_assign rfl) rfl ?_
  refine ol_nil (to_k0 (fun _ _ h => h) (hK2 _ _ _ _ _ ?_))
  clear hK2
  refine hQ.ret (rvs1 (rv_t rfl)) (fun _ _ h => h) fun w hb hs hB hkd => ?_
  exact ⟨rfl, hb⟩
end Go.Proofs.Ytjflbnbofedlkaa

/-
  Between the library's contracts of sorting, which speak of worlds, and rows of the caller's.
-/


namespace Go.Proofs.Ytjflbnbofedlkaa.Hx
open Go Go.RowKit
set_option linter.unusedVariables false
set_option linter.unusedSimpArgs false
section
variable {w : World} {B g n cap size : Nat} {e : TypeId} {vs vs' : List Value}
theorem row_cells (h : w.ownsRow B e size (.slice (some ⟨g, 0, none⟩) n cap) n vs) : ∃ cur : Array Value, w.heap[g]? = some (.cells cur e (0, 0)) ∧ vs.length ≤ cur.size ∧ (∀ (j : Nat) (u : Value), vs[j]? = some u → cur[j]? = some u) := by
  obtain ⟨hl, h | ⟨g', cap', cur, hv, hb, hg, h1, h2, h3, h4⟩⟩ := h
  · cases h.1
  · cases hv
    have h5 := Nat.mul_le_mul_right size h1
    refine ⟨cur, hg, by omega, fun j u hj => ?_⟩
    rw [← h4, List.getElem?_take] at hj
    split at hj
    · simpa using hj
    · cases hj
theorem row_holds (h : w.ownsRow B e size (.slice (some ⟨g, 0, none⟩) n cap) n vs) : Go.Sort.Holds id w g 0 vs.toArray := by
  obtain ⟨cur, hg, hs, hc⟩ := row_cells h
  intro j hj
  have hj' : j < vs.length := by simpa using hj
  have h6 := hc j _ (List.getElem?_eq_getElem hj')
  constructor
  · simp [World.cell?, hg, h6, hj']
  · simp [World.frozen?, hg]
/-- The world behind the sort: the row holds other values, draws, and new blocks. -/
def putW (w : World) (g nd : Nat) (vs : List Value) (os : Array Obj) : World := Go.Sort.grow (Go.Sort.putRow id (Go.Sort.ahead w nd) g 0 vs.toArray) os
theorem putW_size (w : World) (g nd : Nat) (vs : List Value) (os : Array Obj) : w.heap.size ≤ (putW w g nd vs os).heap.size := by
  simp [putW, Go.Sort.grow, Go.Sort.putRow, Go.Sort.mapBlock, Go.Sort.ahead]
theorem putW_at {g nd : Nat} {vs : List Value} {os : Array Obj} {cur : Array Value} {fr : Nat × Nat} (hg : w.heap[g]? = some (.cells cur e fr)) : (putW w g nd vs os).heap[g]? = some (.cells (Go.Sort.putCells id 0 vs.toArray cur) e fr) := by
  have hlt := (Array.getElem?_eq_some_iff.1 hg).1
  simp only [putW, Go.Sort.grow, Go.Sort.putRow, Go.Sort.mapBlock, Go.Sort.ahead]
  rw [Array.getElem?_append, if_pos (by simpa using hlt), Array.getElem?_modify, if_pos rfl, hg]
  rfl
theorem putW_other {g nd k : Nat} {vs : List Value} {os : Array Obj} (hk : k < w.heap.size) (hn : k ≠ g) : (putW w g nd vs os).heap[k]? = w.heap[k]? := by
  simp only [putW, Go.Sort.grow, Go.Sort.putRow, Go.Sort.mapBlock, Go.Sort.ahead]
  rw [Array.getElem?_append, if_pos (by simpa using hk), Array.getElem?_modify, if_neg (fun h => hn h.symm)]
theorem putW_row {nd : Nat} {os : Array Obj} (h : w.ownsRow B e size (.slice (some ⟨g, 0, none⟩) n cap) n vs) (hl : vs'.length = vs.length) : (putW w g nd vs' os).ownsRow B e size (.slice (some ⟨g, 0, none⟩) n cap) n vs' := by
  obtain ⟨h0, h | ⟨g', cap', cur, hv, hb, hg, h1, h2, h3, h4⟩⟩ := h
  · cases h.1
  · cases hv
    refine ⟨by rw [hl]; exact h0, .inr ⟨_, _, _, rfl, hb, putW_at hg, h1, h2, by simpa [Go.Sort.putCells] using h3, ?_⟩⟩
    have h5 := Nat.mul_le_mul_right size h1
    apply List.ext_getElem?
    intro j
    rw [List.getElem?_take]
    split
    · rename_i hj
      have hjc : j < cur.size := by omega
      have hjv : j < vs'.length := by omega
      simp [Go.Sort.putCells, hjc, hjv]
    · rename_i hj
      rw [List.getElem?_eq_none (by omega)]
end
theorem Sat.sorted {w : World} {B id g n cap size nd : Nat} {e : TypeId} {vs vs' : List Value} {H : HL} {os : Array Obj} (hs : Sat B w H) (hB : B ≤ w.heap.size) (hr : look H id = some (.row (some ⟨g, 0, none⟩) n cap vs e size)) (hl : vs'.length = vs.length) :
    Below B w (putW w g nd vs' os) ∧ Sat B (putW w g nd vs' os) ((id, .row (some ⟨g, 0, none⟩) n cap vs' e size) :: H) ∧ B ≤ (putW w g nd vs' os).heap.size ∧ Kd (fun _ => False) w (putW w g nd vs' os) := by
  have hok := hs.ok id _ hr
  have hlt := Ent.own_lt hok (b := g) rfl
  obtain ⟨cur, hg, _, _⟩ := row_cells hok
  refine ⟨⟨rfl, rfl, rfl, putW_size _ _ _ _ _, fun k hk => putW_other (by omega) (by omega), Nat.le_add_right _ _⟩, ?_, Nat.le_trans hB (putW_size _ _ _ _ _), ?_⟩
  · refine hs.turn hr (e' := .row (some ⟨g, 0, none⟩) n cap vs' e size) (putW_row hok hl) (fun k hk hne => putW_other hk fun h => hne (by rw [h]; rfl)) (fun b hb => .inl hb)
  · intro k o hk hc _
    by_cases h : k = g
    · subst h; rw [hg] at hk; cases hk; cases hc
    · rw [putW_other (Array.getElem?_eq_some_iff.1 hk).1 h]; exact hk
/-- A store into a field of an element of a row of the call's own. -/
theorem ol_storeRowF {P : Program} {N : Fr} {B : Nat} {w0 : World} {Q : Exit → Act → World → Prop} {al : AL} {H : HL} {ops rest : List Oper} {ty : TypeId} {pos : String} {after : Array Edge} {α : Type} {a : Option Addr} {n cap : Nat}
    {ad x : Operand} {t e : TypeId} {id size o i : Nat} {v : Value} {x0 : α} (E : Enc α) (xs : List α) (y : α) (hp : ev al ad = some (.pointer ((a.map (·.add (i * E.size))).map (·.add o)))) (hH : look H id = some (.row a n cap (E.enc xs) e size)) (hz : size = E.size)
    (hx : ev al x = some v) (hv : v.cells = #[v]) (h1 : one v = true) (hT : Size P t 1) (hx0 : xs[i]? = some x0) (ho : o < E.size) (hy : E.cells y = (E.cells x0).set o v)
    (k : OL P N B w0 ops rest Q al ((id, .row a n cap (E.enc (xs.set i y)) e size) :: H)) :
    OL P N B w0 ops ({ dst := none, op := .store t ad x, type := ty, pos, after, guard := none } :: rest) Q al H := by
  subst hz
  intro a0 w hst
  refine wpList_plain rfl fun K hK => ?_
  have hok : w.ownsRow B e E.size (.slice a n cap) n (E.enc xs) := hst.sat.ok _ _ hH
  have hlen : xs.length = n := (hst.sat.rd hH rfl).len
  have hi : i < n := by have := (List.getElem?_eq_some_iff.1 hx0).1; omega
  obtain ⟨h1', h2⟩ := hok
  rcases h2 with ⟨hv', hn⟩ | ⟨g, cap', cur, hv', hb, hg, hnc, hcm, hcs, htake⟩
  · omega
  cases hv'
  have hlt := (Array.getElem?_eq_some_iff.1 hg).1
  have hmul : i * E.size + E.size ≤ n * E.size := by
    have : i + 1 ≤ n := by omega
    have := Nat.mul_le_mul_right E.size this
    rw [Nat.add_mul] at this; omega
  have hcapm : n * E.size ≤ cap * E.size := Nat.mul_le_mul_right _ hnc
  obtain ⟨cur', r1, r2, r3⟩ := run_storeCells (P := P) g e [v] (i * E.size + o) 0 cur w hg (by simp only [List.length_cons, List.length_nil]; omega) (fun u hu => by simp at hu; subst hu; exact h1)
  have hst' : (storeVar t ⟨g, i * E.size + o, none⟩ v).run P w = .ok () { w with heap := w.heap.setIfInBounds g (.cells cur' e (0, 0)) } := by
    simp only [storeVar, Sem.run_bind, run_sizeOf hT, Result.andThen_ok, hv, List.size_toArray, List.length_cons, List.length_nil, Nat.zero_add, r1, ne_eq, not_true_eq_false, if_false]
  have hpe : a0.eval ad = .pointer (some ⟨g, i * E.size + o, none⟩) := by
    rw [hst.regs.eval hp]; simp [add_none]
  unfold Oper.wp
  simp only [execOp, Instr.storeAt, Instr.sureAddr, hpe, hst.regs.eval hx, Sem.run_bind, Sem.run_pure, Result.andThen_ok, hst', Oper.upon_skip]
  refine hK _ _ (k _ _ (hst.step hst.regs (Below.setBlk hst.below hb _) ?_ (by simpa using hst.base) (Kd.one g (fun k _ hk => setBlk_other w g k _ hk) (fun o ho => .inl (by rw [hg] at ho; cases ho; rfl)))))
  refine hst.sat.turn hH (e' := .row (some ⟨g, 0, none⟩) n cap (E.enc (xs.set i y)) e E.size) ?_ (fun k _ hk => setBlk_other w g k _ (fun e => hk (by simp [Ent.own, e]))) (fun b' hb' => .inl hb')
  refine ⟨by rw [E.enc_len, List.length_set, hlen], .inr ⟨g, cap, cur', rfl, hb, by simp [hlt], hnc, hcm, by rw [r2, hcs], ?_⟩⟩
  apply List.ext_getElem?
  intro j
  rw [E.enc_set xs _ y j (by omega), List.getElem?_take]
  have h3 := r3 j
  simp only [Nat.add_zero, List.length_cons, List.length_nil, Nat.zero_add] at h3
  by_cases hj : j < n * E.size
  · rw [if_pos hj, Array.getElem?_toList, h3]
    by_cases hr : i * E.size ≤ j ∧ j < i * E.size + E.size
    · rw [if_pos hr, hy, List.getElem?_set]
      by_cases hjo : j = i * E.size + o
      · subst hjo
        rw [if_pos (by omega), Nat.sub_self, if_pos (by omega), if_pos (by rw [E.len]; exact ho)]; rfl
      · rw [if_neg (by omega), if_neg (by omega)]
        have h4 : j = i * E.size + (j - i * E.size) := by omega
        cases h5 : (E.cells x0)[j - i * E.size]? with
        | none => have := List.getElem?_eq_none_iff.1 h5; rw [E.len] at this; omega
        | some u =>
          have h6 := E.enc_get xs i x0 hx0 _ u h5
          rw [← h4, ← htake, List.getElem?_take, if_pos hj, Array.getElem?_toList] at h6
          exact h6
    · rw [if_neg hr, if_neg (by omega), ← htake, List.getElem?_take, if_pos hj, Array.getElem?_toList]
  · rw [if_neg hj, if_neg (by omega), List.getElem?_eq_none (by rw [h1']; omega)]
end Go.Proofs.Ytjflbnbofedlkaa.Hx

/-
  slices.SortFunc of structs: the library's contract, for rows of the caller's.
-/


namespace Go.Proofs.Ytjflbnbofedlkaa
open Go Go.RowKit Go.Sort Hx
set_option linter.unusedVariables false
set_option linter.unusedSimpArgs false
theorem Below.world {w w' : World} (h : Below w.heap.size w w') : ∃ q os, w' = Go.Sort.grow (w.drewN q) os := by
  obtain ⟨h1, h2, h3, h4, h5, h6⟩ := h
  refine ⟨w'.drawn - w.drawn, w'.heap.extract w.heap.size w'.heap.size, ?_⟩
  have hh : w'.heap = w.heap ++ w'.heap.extract w.heap.size w'.heap.size := by
    apply Array.ext_getElem?
    intro k
    rw [Array.getElem?_append]
    by_cases hk : k < w.heap.size
    · rw [if_pos hk]; exact h5 k hk
    · rw [if_neg hk, Array.getElem?_extract]
      by_cases hk2 : k < w'.heap.size
      · rw [if_pos (by omega), show w.heap.size + (k - w.heap.size) = k by omega]
      · rw [if_neg (by omega), Array.getElem?_eq_none (by omega)]
  have hd : w'.drawn = w.drawn + (w'.drawn - w.drawn) := by omega
  cases w'
  simp only at h1 h2 h3 hh hd
  subst h1 h2 h3
  unfold Go.Sort.grow World.drewN
  simp only [World.mk.injEq]
  exact ⟨hh, trivial, hd, trivial, trivial⟩
theorem flat_enc {α : Type} [Inhabited α] (E : Enc α) (d : Array α) : (flatK E.cells E.size d).toList = E.enc d.toList := by
  have hk := E.len
  apply List.ext_getElem?
  intro j
  have hp := E.pos
  by_cases hj : j < d.size * E.size
  · have h1 : j / E.size < d.size := (Nat.div_lt_iff_lt_mul hp).2 hj
    have h2 : d.toList[j / E.size]? = some (d[j / E.size]!) := by
      rw [Array.getElem?_toList, Array.getElem?_eq_getElem h1, getElem!_pos d _ h1]
    have h3 : j % E.size < (E.cells (d[j / E.size]!)).length := by rw [hk]; exact Nat.mod_lt _ hp
    have h4 := E.enc_get d.toList (j / E.size) _ h2 (j % E.size) _ (List.getElem?_eq_getElem h3)
    rw [show j / E.size * E.size + j % E.size = j by rw [Nat.mul_comm]; exact Nat.div_add_mod j E.size] at h4
    rw [h4]
    have h5 := get_flatK E.cells E.size d j hj
    have h6 : j < (flatK E.cells E.size d).size := by simpa using hj
    rw [Array.getElem?_toList, Array.getElem?_eq_getElem h6]
    rw [getElem!_pos (flatK E.cells E.size d) j h6, getElem!_pos (E.cells d[j / E.size]!) (j % E.size) h3] at h5
    rw [h5]
  · rw [List.getElem?_eq_none (by simp; omega), List.getElem?_eq_none (by rw [E.enc_len]; simp; omega)]
def sortBy {α : Type} (cf : α → α → Int) (xs : List α) : List α := xs.mergeSort fun x y => !ltOf cf y x
theorem sortBy_len {α : Type} (cf : α → α → Int) (xs : List α) : (sortBy cf xs).length = xs.length := List.length_mergeSort _
section
variable {P : Program} {ρ : Go.Shelf.Ren} {α : Type} [Inhabited α]
theorem sortK_rows (E : Enc α) (L : SlLaysF0.n6 P ρ) (aE : ∀ w, (isAgg (ρ.t 24)).run P w = .ok true w) (zE : ∀ w, (Go.sizeOf (ρ.t 24)).run P w = .ok E.size w) (cf : α → α → Int) (hO : Go.Sort.SWO (ltOf cf)) (hT : ∀ x y, ltOf cf x y = false → ltOf cf y x = false → x = y) (g : Nat) (cb : Array Value)
    (eg : ∀ args w, (callFunc g args).run P w = .ok (.enter g args) w) (hcmp : ∀ w x y, Calls P g (#[.agg (E.cells x).toArray, .agg (E.cells y).toArray] ++ cb) w fun e w' => e = .returned (.int .i64 (cf x y)) ∧ Below w.heap.size w w')
    (B id : Nat) (a : Option Addr) (n c : Nat) (xs : List α) (T : TypeId) (H : HL) (w : World) (hB : B ≤ w.heap.size) (hs : Sat B w H) (hr : Hx.look H id = some (.row a n c (E.enc xs) T E.size)) (hn : 0 < n) (hsz : n < 4611686018427387904) :
    Calls P (ρ.f 6) #[.slice a n c, .func (.func g) #[] cb] w fun e w' => e = .returned (.tuple #[]) ∧ Below B w w' ∧ Sat B w' ((id, .row a n c (E.enc (sortBy cf xs)) T E.size) :: H) ∧ B ≤ w'.heap.size ∧ Kd (fun _ => False) w w' := by
  have hok := hs.ok id _ hr
  have hlen : xs.length = n := (hs.rd hr rfl).len
  obtain ⟨g', rfl⟩ : ∃ g', a = some ⟨g', 0, none⟩ := by
    obtain ⟨_, h | ⟨g', cap', cur, hv, _⟩⟩ := (hok : w.ownsRow B T E.size (.slice a n c) n (E.enc xs))
    · omega
    · cases hv; exact ⟨g', rfl⟩
  have hlt := (Ent.own_lt hok (b := g') rfl).2
  subst hlen
  have h2 := row_holds hok
  have hfl : flatK E.cells E.size xs.toArray = (E.enc xs).toArray := by
    apply Array.ext'
    rw [flat_enc]
  have hH : HoldsK E.cells E.size w g' 0 xs.toArray := by
    unfold HoldsK
    rw [hfl]; exact h2
  have hcm : CmpLays P g cb E.cells E.size cf g' 0 xs.toArray.size w := fun m os dk _ x y => by
    refine (hcmp _ x y).mono ?_
    rintro e w2 ⟨he, hb⟩
    exact ⟨he, hb.world⟩
  have hones : ∀ x, ∀ v ∈ E.cells x, v.oneCell' = true := fun x v hv => oneCell_of (E.ones x v hv)
  have h := AnyQ.slices_SortFunc_total L E.size aE zE E.cells E.len hones cf hO g cb g' 0 c xs.toArray w eg hcm hH hlt (by simpa using hsz) hT
  rw [List.size_toArray] at h
  refine h.mono ?_
  rintro e w' ⟨rfl, nd, os, rfl⟩
  have hw : sortWorldK E.cells E.size w g' 0 nd (xs.toArray.toList.mergeSort fun x y => !(ltOf cf) y x).toArray os = putW w g' nd (E.enc (sortBy cf xs)) os := by
    unfold sortWorldK putRowK putW sortBy
    congr 2
    apply Array.ext'
    rw [flat_enc]
  rw [hw]
  exact ⟨rfl, hs.sorted hB hr (by rw [E.enc_len, E.enc_len, sortBy_len])⟩
end
end Go.Proofs.Ytjflbnbofedlkaa

/-
  Places: plain part.
-/








namespace Go.Proofs.Ytjflbnbofedlkaa
open Go Hx
set_option linter.unusedVariables false
set_option linter.unusedSimpArgs false
/-! #### names in order -/
def bytesB (b : ByteArray) : List UInt8 := b.data.toList
def ofB (l : List UInt8) : ByteArray := ⟨l.toArray⟩
theorem ofB_bytesB (b : ByteArray) : ofB (bytesB b) = b := by simp [ofB, bytesB]
theorem bytesB_inj {x y : ByteArray} (h : bytesB x = bytesB y) : x = y := by rw [← ofB_bytesB x, h, ofB_bytesB]
theorem less_eq : ∀ (x y : List UInt8), Op.bytesLess x y = decide (x < y)
  | [], [] => by simp [Op.bytesLess]
  | _ :: _, [] => by simp [Op.bytesLess]
  | [], _ :: _ => by simp [Op.bytesLess]
  | a :: x, b :: y => by
    rw [Op.bytesLess, less_eq x y]
    simp only [List.cons_lt_cons_iff]
    by_cases h1 : a < b <;> by_cases h2 : a = b <;> by_cases h3 : x < y <;> simp [h1, h2, h3]
theorem sLt_iff {x y : ByteArray} : sLt x y = true ↔ bytesB x < bytesB y := by
  unfold sLt; rw [less_eq, ByteArray.toList_eq, ByteArray.toList_eq, decide_eq_true_iff]; rfl
theorem compareB_lt : ∀ (x y : List UInt8), Lib.compareBytes x y < 0 ↔ x < y
  | [], [] => by simp [Lib.compareBytes]
  | _ :: _, [] => by simp [Lib.compareBytes]
  | [], _ :: _ => by simp [Lib.compareBytes]
  | a :: x, b :: y => by
    rw [Lib.compareBytes, List.cons_lt_cons_iff]
    by_cases h1 : a < b
    · simp [h1]
    · by_cases h2 : b < a
      · have : a ≠ b := fun h => by subst h; exact h1 h2
        simp [h1, h2, this]
      · have : a = b := UInt8.le_antisymm (UInt8.not_lt.1 h2) (UInt8.not_lt.1 h1)
        subst this
        rw [if_neg h1, if_neg h1, compareB_lt x y]
        simp [h1]
theorem compareB_zero : ∀ (x y : List UInt8), Lib.compareBytes x y = 0 → x = y
  | [], [], _ => rfl
  | _ :: _, [], h => by simp [Lib.compareBytes] at h
  | [], _ :: _, h => by simp [Lib.compareBytes] at h
  | a :: x, b :: y, h => by
    rw [Lib.compareBytes] at h
    by_cases h1 : a < b
    · rw [if_pos h1] at h; cases h
    · rw [if_neg h1] at h
      by_cases h2 : b < a
      · rw [if_pos h2] at h; cases h
      · rw [if_neg h2] at h
        rw [UInt8.le_antisymm (UInt8.not_lt.1 h2) (UInt8.not_lt.1 h1), compareB_zero x y h]
def cmpS (a b : ByteArray) : Int := Lib.compareBytes a.data.toList b.data.toList
/-! #### scores -/
structure ScoreR where
  name : ByteArray
  start : Int
  time : Int
deriving DecidableEq
structure PlaceR where
  rank : Int
  sc : ScoreR
def scf (a b : ScoreR) : Int := orL [cmpI a.time b.time, cmpI a.start b.start, cmpS a.name b.name]
def sclt (a b : ScoreR) : Bool := if a.time ≠ b.time then decide (a.time < b.time) else if a.start ≠ b.start then decide (a.start < b.start) else sLt a.name b.name
theorem sclt_iff {a b : ScoreR} : sclt a b = true ↔ a.time < b.time ∨ a.time = b.time ∧ (a.start < b.start ∨ a.start = b.start ∧ bytesB a.name < bytesB b.name) := by
  unfold sclt
  by_cases h1 : a.time = b.time
  · rw [if_neg (fun h => h h1)]
    by_cases h2 : a.start = b.start
    · rw [if_neg (fun h => h h2), sLt_iff]; simp [h1, h2]
    · rw [if_pos h2]; simp [h1, h2]
  · rw [if_pos h1]; simp [h1]
theorem sclt_no {a b : ScoreR} : sclt a b = false ↔ ¬(a.time < b.time ∨ a.time = b.time ∧ (a.start < b.start ∨ a.start = b.start ∧ bytesB a.name < bytesB b.name)) := by rw [← sclt_iff]; simp
theorem sclt_tot : TotO sclt := by
  refine ⟨fun a b h => ?_, fun a b c h1 h2 => ?_, fun a b h1 h2 => ?_⟩
  · rw [sclt_iff] at h; rw [sclt_no]
    rcases h with h | ⟨h, h | ⟨h3, h4⟩⟩
    · omega
    · omega
    · rintro (h5 | ⟨h5, h6 | ⟨h6, h7⟩⟩)
      · omega
      · omega
      · exact List.lt_irrefl _ (List.lt_trans h4 h7)
  · rw [sclt_iff] at *
    rcases h1 with h | ⟨h, h | ⟨h3, h4⟩⟩ <;> rcases h2 with k | ⟨k, k | ⟨k3, k4⟩⟩
    any_goals omega
    exact .inr ⟨by omega, .inr ⟨by omega, List.lt_trans h4 k4⟩⟩
  · rw [sclt_no] at *
    have e1 : a.time = b.time := by
      by_cases h3 : a.time = b.time
      · exact h3
      · exfalso; omega
    have e2 : a.start = b.start := by
      by_cases h3 : a.start = b.start
      · exact h3
      · exfalso; omega
    have e3 : a.name = b.name := by
      refine bytesB_inj (List.le_antisymm (List.not_lt.1 fun h => h2 ?_) (List.not_lt.1 fun h => h1 ?_))
      · exact .inr ⟨e1.symm, .inr ⟨e2.symm, h⟩⟩
      · exact .inr ⟨e1, .inr ⟨e2, h⟩⟩
    cases a; cases b; simp at e1 e2 e3; subst e1 e2 e3; rfl
theorem scf_lt (a b : ScoreR) : ltOf scf a b = sclt a b := by
  have h : scf a b < 0 ↔ sclt a b = true := by
    rw [sclt_iff]
    unfold scf orL orL orL orL cmpI
    have h3 := compareB_lt a.name.data.toList b.name.data.toList
    have h4 := compareB_zero a.name.data.toList b.name.data.toList
    unfold cmpS bytesB
    by_cases e1 : a.time < b.time
    · simp [e1]
    · by_cases e2 : b.time < a.time
      · have e3 : a.time ≠ b.time := by omega
        simp [e1, e2, e3]
      · have e3 : a.time = b.time := by omega
        by_cases f1 : a.start < b.start
        · simp [e3, f1]
        · by_cases f2 : b.start < a.start
          · have f3 : a.start ≠ b.start := by omega
            simp [e3, f1, f2, f3]
          · have f3 : a.start = b.start := by omega
            simp only [e3, f3, Int.lt_irrefl, if_false, ne_eq, not_true_eq_false, false_or, true_and]
            by_cases g : Lib.compareBytes a.name.data.toList b.name.data.toList = 0
            · simp [g]; rw [Array.ext' (h4 g)]; exact Array.le_refl _
            · simp [g, h3]
  unfold ltOf
  cases h2 : sclt a b with
  | true => simpa using h.2 h2
  | false =>
    have h6 : ¬scf a b < 0 := fun h5 => (by rw [h.1 h5] at h2; cases h2)
    exact decide_eq_false h6
theorem scf_swo : Go.Sort.SWO (ltOf scf) := by
  refine ⟨fun x => ?_, fun x y z h1 h2 => ?_, fun x y z h1 h2 => ?_⟩
  · rw [scf_lt]
    cases h : sclt x x with
    | false => rfl
    | true => have := sclt_tot.asym x x h; rw [h] at this; cases this
  · rw [scf_lt] at *; exact sclt_tot.trans _ _ _ h1 h2
  · rw [scf_lt] at *; exact sclt_tot.le_trans h2 h1
theorem scf_tot (x y : ScoreR) (h1 : ltOf scf x y = false) (h2 : ltOf scf y x = false) : x = y := by
  rw [scf_lt] at h1 h2; exact sclt_tot.total x y h1 h2
theorem sortBy_scf (xs : List ScoreR) : sortBy scf xs = sortL sclt xs := by
  unfold sortBy sortL
  congr 1
  funext x y
  rw [scf_lt]
/-! #### the best of each name -/
instance (n : ByteArray) (l : List ByteArray) : Decidable (n ∈ l) := @List.instDecidableMemOfLawfulBEq _ instBEqOfDecidableEq _ n l
/-- The first of each name. -/
def firsts : List ScoreR → List ByteArray → List ScoreR
  | [], _ => []
  | x :: r, seen => if x.name ∈ seen then firsts r seen else x :: firsts r (x.name :: seen)
theorem firsts_sub : ∀ (l : List ScoreR) (seen : List ByteArray), (firsts l seen).Sublist l
  | [], _ => List.Sublist.refl _
  | x :: r, seen => by
    rw [firsts]
    by_cases h : x.name ∈ seen
    · rw [if_pos h]; exact (firsts_sub r seen).cons _
    · rw [if_neg h]; exact (firsts_sub r _).cons_cons _
theorem firsts_name : ∀ (l : List ScoreR) (seen : List ByteArray), (∀ x ∈ firsts l seen, x.name ∉ seen) ∧ ((firsts l seen).map (·.name)).Nodup
  | [], _ => ⟨fun x h => by simp [firsts] at h, List.nodup_nil⟩
  | x :: r, seen => by
    rw [firsts]
    by_cases h : x.name ∈ seen
    · rw [if_pos h]; exact firsts_name r seen
    · rw [if_neg h]
      obtain ⟨h1, h2⟩ := firsts_name r (x.name :: seen)
      refine ⟨fun y hy => ?_, ?_⟩
      · rcases List.mem_cons.1 hy with rfl | hy
        · exact h
        · exact fun hs => h1 y hy (List.mem_cons_of_mem _ hs)
      · rw [List.map_cons]
        refine List.nodup_cons.2 ⟨fun hm => ?_, h2⟩
        obtain ⟨y, hy, hyn⟩ := List.mem_map.1 hm
        exact h1 y hy (by rw [hyn]; exact List.mem_cons_self ..)
/-- In a list in order the first of a name is the least of that name. -/
theorem firsts_mem : ∀ (l : List ScoreR) (seen : List ByteArray), Srt sclt l → ∀ x, x ∈ firsts l seen ↔ x ∈ l ∧ x.name ∉ seen ∧ ∀ y ∈ l, y.name = x.name → sclt y x = false
  | [], seen, _, x => by simp [firsts]
  | z :: r, seen, hs, x => by
    have hs' := List.pairwise_cons.1 hs
    have hself : sclt x x = false := by
      cases h : sclt x x with
      | false => rfl
      | true => have := sclt_tot.asym x x h; rw [h] at this; cases this
    rw [firsts]
    by_cases h : z.name ∈ seen
    · rw [if_pos h, firsts_mem r seen hs'.2 x]
      constructor
      · rintro ⟨h1, h2, h3⟩
        refine ⟨List.mem_cons_of_mem _ h1, h2, fun y hy hyn => ?_⟩
        rcases List.mem_cons.1 hy with rfl | hy
        · rw [hyn] at h; exact absurd h h2
        · exact h3 y hy hyn
      · rintro ⟨h1, h2, h3⟩
        rcases List.mem_cons.1 h1 with rfl | h1
        · exact absurd h h2
        · exact ⟨h1, h2, fun y hy hyn => h3 y (List.mem_cons_of_mem _ hy) hyn⟩
    · rw [if_neg h, List.mem_cons, firsts_mem r (z.name :: seen) hs'.2 x]
      constructor
      · rintro (rfl | ⟨h1, h2, h3⟩)
        · refine ⟨List.mem_cons_self .., h, fun y hy hyn => ?_⟩
          rcases List.mem_cons.1 hy with rfl | hy
          · exact hself
          · exact hs'.1 y hy
        · rw [List.mem_cons, not_or] at h2
          refine ⟨List.mem_cons_of_mem _ h1, h2.2, fun y hy hyn => ?_⟩
          rcases List.mem_cons.1 hy with rfl | hy
          · exact absurd hyn.symm h2.1
          · exact h3 y hy hyn
      · rintro ⟨h1, h2, h3⟩
        by_cases hn : x.name = z.name
        · left
          have a1 := h3 z (List.mem_cons_self ..) hn.symm
          rcases List.mem_cons.1 h1 with h1 | h1
          · exact h1
          · exact (sclt_tot.total z x a1 (hs'.1 x h1)).symm
        · right
          rcases List.mem_cons.1 h1 with rfl | h1
          · exact absurd rfl hn
          · exact ⟨h1, by rw [List.mem_cons, not_or]; exact ⟨hn, h2⟩, fun y hy hyn => h3 y (List.mem_cons_of_mem _ hy) hyn⟩
theorem nodup_of_map {α β : Type} {f : α → β} {l : List α} (h : (l.map f).Nodup) : l.Nodup := List.Pairwise.of_map f (fun a b hab he => hab (congrArg f he)) h
/-- A list that holds of each name the least is, in order, this. -/
theorem best_is {l m : List ScoreR} (hn : (m.map (·.name)).Nodup) (hm : ∀ x, x ∈ m ↔ x ∈ l ∧ ∀ y ∈ l, y.name = x.name → sclt y x = false) : sortL sclt m = firsts (sortL sclt l) [] := by
  have hS := sortL_srt sclt_tot l
  refine (sortL_of sclt_tot (hS.sublist (firsts_sub _ _)) ((List.perm_ext_iff_of_nodup (nodup_of_map (firsts_name _ _).2) (nodup_of_map hn)).2 fun x => ?_)).symm
  rw [firsts_mem _ _ hS, hm, (sortL_perm l).mem_iff]
  constructor
  · rintro ⟨h1, _, h3⟩; exact ⟨h1, fun y hy => h3 y ((sortL_perm l).mem_iff.2 hy)⟩
  · rintro ⟨h1, h3⟩; exact ⟨h1, by simp, fun y hy => h3 y ((sortL_perm l).mem_iff.1 hy)⟩
/-! #### the map of the best -/
abbrev BM := List (ByteArray × ScoreR)
def bestM (D : BM) (x : ScoreR) : BM := match pO D x.name with | none => pS D x.name x | some y => if scf x y < 0 then pS D x.name x else D
structure BestOk (l : List ScoreR) (D : BM) : Prop where
  nd : (pKeys D).Nodup
  is : ∀ n x, pO D n = some x ↔ x ∈ l ∧ x.name = n ∧ ∀ y ∈ l, y.name = n → sclt y x = false
theorem BestOk.nil : BestOk [] [] := ⟨List.nodup_nil, fun n x => by simp [pO]⟩
theorem scf_neg {x y : ScoreR} : scf x y < 0 ↔ sclt x y = true := by rw [← scf_lt]; unfold ltOf; simp
theorem sclt_self (x : ScoreR) : sclt x x = false := by
  cases h : sclt x x with
  | false => rfl
  | true => have := sclt_tot.asym x x h; rw [h] at this; cases this
theorem BestOk.put {l : List ScoreR} {D : BM} {x : ScoreR} (h : BestOk l D) (hx : ∀ y, pO D x.name = some y → sclt x y = true) : BestOk (l ++ [x]) (pS D x.name x) := by
  refine ⟨nodup_pS h.nd, fun n z => ?_⟩
  rw [pO_pS]
  by_cases hn : x.name = n
  · subst hn
    rw [if_pos rfl]
    have low : ∀ y ∈ l, y.name = x.name → sclt y x = false := fun y hy hyn => by
      cases hD : pO D x.name with
      | none =>
        exfalso
        -- some least one of that name is there
        have hne : ∃ z, z ∈ l ∧ z.name = x.name ∧ ∀ y ∈ l, y.name = x.name → sclt y z = false := by
          have hmm : y ∈ sortL sclt (l.filter fun z => z.name = x.name) := by rw [(sortL_perm _).mem_iff, List.mem_filter]; exact ⟨hy, by simpa using hyn⟩
          have hso := sortL_srt sclt_tot (l.filter fun z => z.name = x.name)
          have hpm := sortL_perm (lt := sclt) (l.filter fun z => z.name = x.name)
          cases hL : sortL sclt (l.filter fun z => z.name = x.name) with
          | nil => rw [hL] at hmm; simp at hmm
          | cons z r =>
            rw [hL] at hso hpm
            have hz := hpm.mem_iff.1 (List.mem_cons_self ..)
            rw [List.mem_filter] at hz
            refine ⟨z, hz.1, by simpa using hz.2, fun u hu hun => ?_⟩
            have hu2 := hpm.mem_iff.2 (List.mem_filter.2 ⟨hu, by simpa using hun⟩)
            rcases List.mem_cons.1 hu2 with rfl | hu2
            · exact sclt_self _
            · exact (List.pairwise_cons.1 hso).1 u hu2
        obtain ⟨z, h1, h2, h3⟩ := hne
        have := (h.is x.name z).2 ⟨h1, h2, h3⟩
        rw [hD] at this; cases this
      | some z =>
        have h1 := (h.is x.name z).1 hD
        have h2 := hx z hD
        cases hyx : sclt y x with
        | false => rfl
        | true => have := sclt_tot.trans _ _ _ hyx h2; rw [h1.2.2 y hy hyn] at this; cases this
    constructor
    · intro he
      cases he
      refine ⟨List.mem_append_right _ (List.mem_singleton.2 rfl), rfl, fun y hy hyn => ?_⟩
      rcases List.mem_append.1 hy with hy | hy
      · exact low y hy hyn
      · rw [List.mem_singleton.1 hy]; exact sclt_self _
    · rintro ⟨h1, h2, h3⟩
      have a1 := h3 x (List.mem_append_right _ (List.mem_singleton.2 rfl)) rfl
      rcases List.mem_append.1 h1 with h1 | h1
      · rw [sclt_tot.total x z a1 (low z h1 h2)]
      · rw [List.mem_singleton.1 h1]
  · rw [if_neg hn, h.is]
    constructor
    · rintro ⟨h1, h2, h3⟩
      refine ⟨List.mem_append_left _ h1, h2, fun y hy hyn => ?_⟩
      rcases List.mem_append.1 hy with hy | hy
      · exact h3 y hy hyn
      · rw [List.mem_singleton.1 hy] at hyn; exact absurd hyn hn
    · rintro ⟨h1, h2, h3⟩
      refine ⟨?_, h2, fun y hy => h3 y (List.mem_append_left _ hy)⟩
      rcases List.mem_append.1 h1 with h1 | h1
      · exact h1
      · rw [List.mem_singleton.1 h1] at h2; exact absurd h2 hn
theorem BestOk.keep {l : List ScoreR} {D : BM} {x y : ScoreR} (h : BestOk l D) (hD : pO D x.name = some y) (hx : sclt x y = false) : BestOk (l ++ [x]) D := by
  refine ⟨h.nd, fun n z => ?_⟩
  have hy := (h.is _ _).1 hD
  rw [h.is]
  constructor
  · rintro ⟨h1, h2, h3⟩
    refine ⟨List.mem_append_left _ h1, h2, fun u hu hun => ?_⟩
    rcases List.mem_append.1 hu with hu | hu
    · exact h3 u hu hun
    · rw [List.mem_singleton.1 hu] at hun ⊢
      have e : z = y := by
        have h4 := (h.is n z).2 ⟨h1, h2, h3⟩
        rw [← hun, hD] at h4; cases h4; rfl
      rw [e]; exact hx
  · rintro ⟨h1, h2, h3⟩
    have h3' : ∀ u ∈ l, u.name = n → sclt u z = false := fun u hu => h3 u (List.mem_append_left _ hu)
    rcases List.mem_append.1 h1 with h1 | h1
    · exact ⟨h1, h2, h3'⟩
    · have e : z = x := List.mem_singleton.1 h1
      subst e
      have h5 := h3' y hy.1 (by rw [hy.2.1, h2])
      have e2 := sclt_tot.total _ _ hx h5
      exact ⟨e2 ▸ hy.1, h2, h3'⟩
def valsB (D : BM) : List ScoreR := D.map (·.2)
theorem BestOk.end_ {l : List ScoreR} {D : BM} (h : BestOk l D) : sortL sclt (valsB D) = firsts (sortL sclt l) [] := by
  have hmem : ∀ x, x ∈ valsB D ↔ pO D x.name = some x := fun x => by
    constructor
    · intro hx
      obtain ⟨⟨n, z⟩, h1, h2⟩ := List.mem_map.1 hx
      dsimp only at h2; subst h2
      have h3 := pO_of h.nd h1
      rw [((h.is n z).1 h3).2.1]; exact h3
    · intro hx
      exact List.mem_map.2 ⟨_, pO_mem hx, rfl⟩
  have hnames : (valsB D).map (·.name) = pKeys D := by
    unfold valsB pKeys
    rw [List.map_map]
    apply List.map_congr_left
    rintro ⟨n, z⟩ hz
    exact ((h.is n z).1 (pO_of h.nd hz)).2.1
  refine best_is (by rw [hnames]; exact h.nd) fun x => ?_
  rw [hmem, h.is]
  simp
/-! #### ranks -/
def ranksA : List ScoreR → Int → Option PlaceR → List PlaceR
  | [], _, _ => []
  | x :: r, i, p =>
    let k := match p with | some q => if q.sc.time = x.time then q.rank else i + 1 | none => i + 1
    ⟨k, x⟩ :: ranksA r (i + 1) (some ⟨k, x⟩)
def ranksL (l : List ScoreR) : List PlaceR := ranksA l 0 none
/-- The ranks of the first k. -/
def rankN (l : List ScoreR) : Nat → Int
  | 0 => 1
  | k + 1 => match l[k]?, l[k + 1]? with | some x, some y => if x.time = y.time then rankN l k else (k : Int) + 2 | _, _ => 0
def placesN (l : List ScoreR) (k : Nat) : List PlaceR := (List.range k).filterMap fun i => (l[i]?).map fun x => ⟨rankN l i, x⟩
theorem placesN_len {l : List ScoreR} : ∀ {k : Nat}, k ≤ l.length → (placesN l k).length = k
  | 0, _ => rfl
  | k + 1, h => by
    have h1 := List.getElem?_eq_getElem (l := l) (i := k) (by omega)
    unfold placesN
    rw [List.range_succ, List.filterMap_append, List.length_append, show (List.filterMap (fun i => (l[i]?).map fun x => (⟨rankN l i, x⟩ : PlaceR)) (List.range k)).length = k from placesN_len (by omega)]
    simp [h1]
theorem placesN_succ {l : List ScoreR} {k : Nat} {x : ScoreR} (h : l[k]? = some x) : placesN l (k + 1) = placesN l k ++ [⟨rankN l k, x⟩] := by
  unfold placesN
  rw [List.range_succ, List.filterMap_append]
  simp [h]
theorem placesN_get {l : List ScoreR} : ∀ {k i : Nat} {p : PlaceR}, k ≤ l.length → (placesN l k)[i]? = some p → ∃ x, l[i]? = some x ∧ p = ⟨rankN l i, x⟩
  | 0, i, p, _, h => by simp [placesN] at h
  | k + 1, i, p, hk, h => by
    have h1 := List.getElem?_eq_getElem (l := l) (i := k) (by omega)
    rw [placesN_succ h1, List.getElem?_append] at h
    rw [placesN_len (by omega)] at h
    by_cases hi : i < k
    · rw [if_pos hi] at h; exact placesN_get (by omega) h
    · rw [if_neg hi] at h
      have hik : i = k := by
        have := (List.getElem?_eq_some_iff.1 h).1
        simp at this; omega
      subst hik
      rw [Nat.sub_self] at h
      simp at h
      exact ⟨_, h1, h.symm⟩
theorem rankN_eq {l : List ScoreR} {k : Nat} {x y : ScoreR} (hx : l[k]? = some x) (hy : l[k + 1]? = some y) : rankN l (k + 1) = if x.time = y.time then rankN l k else (k : Int) + 2 := by rw [rankN, hx, hy]
def placesS (l : List ScoreR) : List PlaceR := placesN (firsts (sortL sclt l) []) (firsts (sortL sclt l) []).length
def chkEn (x : ScoreR) : Int := if nameB x.name = false then 8 else if inB x.start 0 86399999999 = false ∨ inB x.time 1 1000000000 = false then 9 else 0
def placesR (l : List ScoreR) : List PlaceR × Int := if l.length > 5000 then ([], 3) else if chkE (fun _ x => chkEn x) none l ≠ 0 then ([], chkE (fun _ x => chkEn x) none l) else (placesS l, 0)
/-! #### as the program and the reference go -/
/-- The places with ranks up to k, the rest without. -/
def rowP (S : List ScoreR) (k : Nat) : List PlaceR := placesN S k ++ (S.drop k).map fun x => ⟨0, x⟩
theorem rowP_len {S : List ScoreR} {k : Nat} (hk : k ≤ S.length) : (rowP S k).length = S.length := by
  rw [rowP, List.length_append, placesN_len hk, List.length_map, List.length_drop]; omega
theorem rowP_get {S : List ScoreR} {k : Nat} {p : PlaceR} (hk : k ≤ S.length) (h : (rowP S k)[k]? = some p) : ∃ x, S[k]? = some x ∧ p = ⟨0, x⟩ := by
  unfold rowP at h
  rw [List.getElem?_append_right (by rw [placesN_len hk]; omega), placesN_len hk, Nat.sub_self, List.getElem?_map, List.getElem?_drop] at h
  obtain ⟨x, h1, h2⟩ := Option.map_eq_some_iff.1 h
  exact ⟨x, by simpa using h1, h2.symm⟩
theorem rowP_set {S : List ScoreR} {k : Nat} {x : ScoreR} {r : Int} (hx : S[k]? = some x) (hr : r = rankN S k) : (rowP S k).set k ⟨r, x⟩ = rowP S (k + 1) := by
  have hk := (List.getElem?_eq_some_iff.1 hx).1
  unfold rowP
  rw [placesN_succ hx, List.set_append_right _ _ (by rw [placesN_len (by omega)]; omega), placesN_len (by omega), Nat.sub_self, drop_of hx, List.map_cons, List.set_cons_zero, List.append_assoc, hr]
  rfl
theorem rowP_prev {S : List ScoreR} {k : Nat} {p q : PlaceR} (hk : k ≤ S.length) (h0 : 0 < k) (h : ((rowP S k).set k q)[k - 1]? = some p) : ∃ y, S[k - 1]? = some y ∧ p = ⟨rankN S (k - 1), y⟩ := by
  rw [List.getElem?_set_ne (by omega)] at h
  unfold rowP at h
  rw [List.getElem?_append_left (by rw [placesN_len hk]; omega)] at h
  exact placesN_get hk h
theorem rank_next {S : List ScoreR} {k : Nat} {x y : ScoreR} (h0 : 0 < k) (hy : S[k - 1]? = some y) (hx : S[k]? = some x) : rankN S k = if y.time = x.time then rankN S (k - 1) else (k : Int) + 1 := by
  obtain ⟨j, rfl⟩ : ∃ j, k = j + 1 := ⟨k - 1, by omega⟩
  rw [Nat.add_sub_cancel] at hy ⊢
  rw [rankN_eq hy hx]
  by_cases h : y.time = x.time
  · rw [if_pos h, if_pos h]
  · rw [if_neg h, if_neg h]; omega
/-- What the reference has seen. -/
def SeenB (D : List (ByteArray × Bool)) (seen : List ByteArray) : Prop := ∀ n, pO D n = if n ∈ seen then some true else none
theorem SeenB.nil : SeenB [] [] := fun n => by rw [if_neg (by simp)]; rfl
theorem SeenB.put {D : List (ByteArray × Bool)} {seen : List ByteArray} (h : SeenB D seen) (n : ByteArray) : SeenB (pS D n true) (n :: seen) := fun m => by
  rw [pO_pS]
  by_cases hn : n = m
  · rw [if_pos hn, if_pos (by rw [hn]; exact List.mem_cons_self ..)]
  · rw [if_neg hn, h m]
    by_cases hm : m ∈ seen
    · rw [if_pos hm, if_pos (List.mem_cons_of_mem _ hm)]
    · rw [if_neg hm, if_neg (by rw [List.mem_cons]; rintro (h1 | h1); exact hn h1.symm; exact hm h1)]
theorem SeenB.get {D : List (ByteArray × Bool)} {seen : List ByteArray} (h : SeenB D seen) (n : ByteArray) : (pO D n).getD false = decide (n ∈ seen) := by
  rw [h n]
  by_cases hm : n ∈ seen
  · rw [if_pos hm, decide_eq_true hm]; rfl
  · rw [if_neg hm, decide_eq_false hm]; rfl
theorem firsts_skip {S F : List ScoreR} {k j : Nat} {seen : List ByteArray} {x : ScoreR} (h : firsts (S.drop k) seen = F.drop j) (hx : S[k]? = some x) (hm : x.name ∈ seen) : firsts (S.drop (k + 1)) seen = F.drop j := by
  rw [drop_of hx, firsts, if_pos hm] at h; exact h
theorem firsts_take {S F : List ScoreR} {k j : Nat} {seen : List ByteArray} {x : ScoreR} (h : firsts (S.drop k) seen = F.drop j) (hx : S[k]? = some x) (hm : x.name ∉ seen) : F[j]? = some x ∧ firsts (S.drop (k + 1)) (x.name :: seen) = F.drop (j + 1) := by
  rw [drop_of hx, firsts, if_neg hm] at h
  have h1 : F[j]? = some x := by
    have := congrArg (fun l => l[0]?) h
    simpa using this.symm
  rw [drop_of h1, List.cons.injEq] at h
  exact ⟨h1, h.2⟩
theorem firsts_done {S F : List ScoreR} {k j : Nat} {seen : List ByteArray} (h : firsts (S.drop k) seen = F.drop j) (hk : S.length ≤ k) : F.length ≤ j := by
  rw [List.drop_eq_nil_of_le hk, firsts] at h
  have := congrArg List.length h
  simp at this; omega
theorem valsB_get {D : BM} {j : Nat} {n : ByteArray} {v : ScoreR} (h : D[j]? = some (n, v)) : (valsB D)[j]? = some v := by rw [valsB, List.getElem?_map, h]; rfl
theorem valsB_len (D : BM) : (valsB D).length = D.length := by rw [valsB, List.length_map]
theorem placesR_3 {l : List ScoreR} (h : l.length > 5000) : placesR l = ([], 3) := if_pos h
theorem placesR_e {l : List ScoreR} (h : ¬l.length > 5000) (h2 : chkE (fun _ x => chkEn x) none l ≠ 0) : placesR l = ([], chkE (fun _ x => chkEn x) none l) := by rw [placesR, if_neg h, if_pos h2]
theorem placesR_0 {l : List ScoreR} (h : ¬l.length > 5000) (h2 : chkE (fun _ x => chkEn x) none l = 0) : placesR l = (placesS l, 0) := by rw [placesR, if_neg h, if_neg (fun h3 => h3 h2)]
def zS : ScoreR := ⟨⟨#[]⟩, 0, 0⟩
theorem rk_prev {F : List ScoreR} {j : Nat} {p : PlaceR} (hj : j ≤ F.length) (h0 : 0 < (j : Int)) (hp : (placesN F j)[((j : Int) - 1).toNat]? = some p) : ∃ y, F[j - 1]? = some y ∧ p = ⟨rankN F (j - 1), y⟩ := by
  rw [show ((j : Int) - 1).toNat = j - 1 by omega] at hp
  exact placesN_get hj hp
theorem rk_same {F : List ScoreR} {j : Nat} {x : ScoreR} {p q : PlaceR} (hj : j ≤ F.length) (h0 : 0 < (j : Int)) (hx : F[j]? = some x) (hp : (placesN F j)[((j : Int) - 1).toNat]? = some p) (hq : (placesN F j)[((j : Int) - 1).toNat]? = some q) (ht : p.sc.time = x.time) : rankN F j = q.rank := by
  rw [hp] at hq; cases hq
  obtain ⟨y, hy, rfl⟩ := rk_prev hj h0 hp
  rw [rank_next (by omega) hy hx, if_pos ht]
theorem rk_new {F : List ScoreR} {j : Nat} {x : ScoreR} {p : PlaceR} (hj : j ≤ F.length) (h0 : 0 < (j : Int)) (hx : F[j]? = some x) (hp : (placesN F j)[((j : Int) - 1).toNat]? = some p) (ht : ¬p.sc.time = x.time) : rankN F j = (j : Int) + 1 := by
  obtain ⟨y, hy, rfl⟩ := rk_prev hj h0 hp
  rw [rank_next (by omega) hy hx, if_neg ht]
theorem rk_first {F : List ScoreR} {j : Nat} (h0 : ¬0 < (j : Int)) : rankN F j = (j : Int) + 1 := by
  obtain rfl : j = 0 := by omega
  rfl
theorem pS_le {α β : Type} [DecidableEq α] (k : α) (v : β) : ∀ D : List (α × β), (pS D k v).length ≤ D.length + 1
  | [] => by simp [pS]
  | (a, b) :: r => by
    rw [pS]
    split
    · simp
    · have := pS_le k v r; simp only [List.length_cons]; omega
theorem take_next {α : Type} {l : List α} {k : Nat} {x : α} (h : l[k]? = some x) : l.take (k + 1) = l.take k ++ [x] := by
  obtain ⟨h1, rfl⟩ := List.getElem?_eq_some_iff.1 h
  exact List.take_succ_eq_append_getElem h1
section
variable {S : List ScoreR} {k : Nat} {x : ScoreR} {p q r s : PlaceR}
theorem rowA (hx : S[k]? = some x) (h0 : 0 < (k : Int)) (hp : ((rowP S k).set k ⟨(k : Int) + 1, x⟩)[k]? = some p) (hq : ((rowP S k).set k ⟨(k : Int) + 1, x⟩)[((k : Int) - 1).toNat]? = some q) (hr : ((rowP S k).set k ⟨(k : Int) + 1, x⟩)[((k : Int) - 1).toNat]? = some r) (hs : ((rowP S k).set k ⟨(k : Int) + 1, x⟩)[k]? = some s) (ht : p.sc.time = q.sc.time) :
    ((rowP S k).set k ⟨(k : Int) + 1, x⟩).set k ⟨r.rank, s.sc⟩ = rowP S (k + 1) := by
  have hk := (List.getElem?_eq_some_iff.1 hx).1
  rw [hp] at hs; cases hs
  rw [hq] at hr; cases hr
  rw [show ((k : Int) - 1).toNat = k - 1 by omega] at hq
  obtain ⟨y, hy, rfl⟩ := rowP_prev (by omega) (by omega) hq
  have hpl : p = ⟨(k : Int) + 1, x⟩ := by
    have h1 := (List.getElem?_eq_some_iff.1 hp).1
    rw [List.length_set] at h1
    rw [List.getElem?_set_self h1] at hp
    cases hp; rfl
  subst hpl
  rw [List.set_set]
  exact rowP_set hx (by rw [rank_next (by omega) hy hx, if_pos ht.symm])
theorem rowB (hx : S[k]? = some x) (h0 : 0 < (k : Int)) (hp : ((rowP S k).set k ⟨(k : Int) + 1, x⟩)[k]? = some p) (hq : ((rowP S k).set k ⟨(k : Int) + 1, x⟩)[((k : Int) - 1).toNat]? = some q) (ht : ¬p.sc.time = q.sc.time) :
    (rowP S k).set k ⟨(k : Int) + 1, x⟩ = rowP S (k + 1) := by
  have hk := (List.getElem?_eq_some_iff.1 hx).1
  rw [show ((k : Int) - 1).toNat = k - 1 by omega] at hq
  obtain ⟨y, hy, rfl⟩ := rowP_prev (by omega) (by omega) hq
  have hpl : p = ⟨(k : Int) + 1, x⟩ := by
    have h1 := (List.getElem?_eq_some_iff.1 hp).1
    rw [List.length_set] at h1
    rw [List.getElem?_set_self h1] at hp
    cases hp; rfl
  subst hpl
  exact rowP_set hx (by rw [rank_next (by omega) hy hx, if_neg (fun h => ht h.symm)])
theorem rowC (hx : S[k]? = some x) (h0 : ¬0 < (k : Int)) : (rowP S k).set k ⟨(k : Int) + 1, x⟩ = rowP S (k + 1) := rowP_set hx (rk_first h0).symm
end
theorem rowP_sc {S : List ScoreR} {k : Nat} {p : PlaceR} (hk : k ≤ S.length) (h : (rowP S k)[k]? = some p) : S[k]? = some p.sc := by
  obtain ⟨x, h1, rfl⟩ := rowP_get hk h
  exact h1
end Go.Proofs.Ytjflbnbofedlkaa

/-
  Contracts of functions of package slices, at int.
-/


namespace Go.Proofs.Ytjflbnbofedlkaa
open Go Go.RowKit Hx
set_option linter.unusedVariables false
set_option linter.unusedSimpArgs false

def maxV : List Int → Int
  | [] => 0
  | x :: r => r.foldl max x
def idxI (ys : List Int) (v : Int) : Int := match ys.findIdx? (· == v) with | some i => i | none => -1
end Go.Proofs.Ytjflbnbofedlkaa

/-
  The stable sort of Go's library, over a row of ints of the caller's: walked. (Printed by gen_stab.py.)
-/



namespace Go.Proofs.Ytjflbnbofedlkaa
open Go Go.RowKit Hx
set_option linter.unusedVariables false
set_option linter.unusedSimpArgs false
set_option maxRecDepth 8000
def ltC (cf : Int → Int → Int) (x y : Int) : Bool := decide (cf x y < 0)
theorem ltC_t {cf : Int → Int → Int} {x y : Int} (h : cf x y < 0) : ltC cf x y = true := decide_eq_true h
theorem ltC_f {cf : Int → Int → Int} {x y : Int} (h : ¬cf x y < 0) : ltC cf x y = false := decide_eq_false h
theorem tab_eq {n : Nat} {f : Nat → Int} {k : Nat} {x : Int} (h : (tab n f)[k]? = some x) : f k = x := (tab_get h).2.symm
theorem sw_row {n i j : Nat} {f : Nat → Int} {x y : Int} {u v : Int} (hu : u.toNat = i) (hv : v.toNat = j) (hx : ∃ k, k = j ∧ (tab n f)[k]? = some x) (hy : ∃ k, k = i ∧ (tab n f)[k]? = some y) : ((tab n f).set u.toNat x).set v.toNat y = tab n (sw2 f i j) := by
  obtain ⟨_, rfl, hx⟩ := hx
  obtain ⟨_, rfl, hy⟩ := hy
  have h1 := tab_get hx
  have h2 := tab_get hy
  rw [hu, hv, h1.2, h2.2]
  exact tab_sw2 f h2.1 h1.1
theorem r_subT {P : Program} {N : Fr} {B : Nat} {w0 : World} {al : AL} {H : HL} {ty : TypeId} {x y : Operand} {t t' : TypeId} {m l : Int} (v : Nat) (hx : ev al x = some (.int .i64 m)) (hy : ev al y = some (.int .i64 l)) (h : m - l = v) (hv : v ≤ 1000000000000) : Runs P N B w0 (.binOp .sub t x y t') ty al H (.int .i64 (v : Int)) := by
  have h2 := r_sub (P := P) (N := N) (B := B) (w0 := w0) (H := H) (ty := ty) (t := t) (t' := t') hx hy (by omega)
  rw [h] at h2; exact h2
theorem r_addT {P : Program} {N : Fr} {B : Nat} {w0 : World} {al : AL} {H : HL} {ty : TypeId} {x y : Operand} {t t' : TypeId} {m l : Int} (v : Nat) (hx : ev al x = some (.int .i64 m)) (hy : ev al y = some (.int .i64 l)) (h : m + l = v) (hv : v ≤ 1000000000000) : Runs P N B w0 (.binOp .add t x y t') ty al H (.int .i64 (v : Int)) := by
  have h2 := r_add (P := P) (N := N) (B := B) (w0 := w0) (H := H) (ty := ty) (t := t) (t' := t') hx hy (by omega)
  rw [h] at h2; exact h2
theorem r_mulT {P : Program} {N : Fr} {B : Nat} {w0 : World} {al : AL} {H : HL} {ty : TypeId} {x y : Operand} {t t' : TypeId} {m l : Int} (v : Nat) (hx : ev al x = some (.int .i64 m)) (hy : ev al y = some (.int .i64 l)) (h : m * l = v) (hv : v ≤ 1000000000000) : Runs P N B w0 (.binOp .mul t x y t') ty al H (.int .i64 (v : Int)) := by
  have h2 := r_mul (P := P) (N := N) (B := B) (w0 := w0) (H := H) (ty := ty) (t := t) (t' := t') hx hy (by omega)
  rw [h] at h2; exact h2
theorem rotF_id1 (f : Nat → Int) (m b : Nat) : rotF f m m b = f := by
  funext x
  simp only [rotF]
  repeat' split
  all_goals first | (exfalso; omega) | (congr 1; omega) | rfl
theorem rotF_id2 (f : Nat → Int) (a m : Nat) : rotF f a m m = f := by
  funext x
  simp only [rotF]
  repeat' split
  all_goals first | (exfalso; omega) | (congr 1; omega) | rfl
theorem RR.lt_left {lt : Int → Int → Bool} (hw : Swo lt) {x h p : Int} (h1 : RR lt x h) (h2 : lt h p = true) : lt x p = true := by
  rcases h1 with h1 | ⟨h1, _⟩
  · exact hw.trans _ _ _ h1 h2
  · cases h3 : lt x p with
    | true => rfl
    | false => have := hw.inc _ _ _ h1 h3; rw [h2] at this; cases this
theorem RR.lt_right {lt : Int → Int → Bool} (hw : Swo lt) {x h m : Int} (h1 : RR lt x h) (h2 : lt m x = true) : lt m h = true := by
  rcases h1 with h1 | ⟨h1, _⟩
  · exact hw.trans _ _ _ h2 h1
  · cases h3 : lt m h with
    | true => rfl
    | false => have := hw.inc _ _ _ h3 h1; rw [h2] at this; cases this
theorem good_of {Good : Int → Prop} {f g : Nat → Int} {n : Nat} (h : ∀ i, i < n → Good (f i)) (hs : SaS f g 0 n) : ∀ i, i < n → Good (g i) := fun i hi => by
  obtain ⟨y, _, h2, h3⟩ := hs.2 i (Nat.zero_le _) hi
  rw [h3]; exact h y h2
theorem Blo.all {lt : Int → Int → Bool} {f g : Nat → Int} {a b n : Nat} (h : Blo lt f g a b) (hab : a ≤ b) (hb : b ≤ n) : SaS f g 0 n := h.sa.widen (Nat.zero_le _) hb hab h.out
/-- Blocks of a size are sorted, each with what it held. -/
def Blks (lt : Int → Int → Bool) (f F : Nat → Int) (s n : Nat) : Prop := ∀ p, s ∣ p → p < n → SoR lt F p (min (p + s) n) ∧ SaS f F p (min (p + s) n)

theorem swapRange_w (cf : Int → Int → Int) (Good : Int → Prop) (B : Nat) (cb : Nat) (a : Option Addr) (n c : Nat) (e1 e2 e3 e4 e5 e6 e7 e8 e9 e10 : Ent) (f : Nat → Int) (p q m : Nat) (w : World) (hB : B ≤ w.heap.size) (hn : n ≤ 1000000) (h1 : p + m ≤ q) (h2 : q + m ≤ n) (hs : Sat B w [(5000, .row a n c (encI.enc (tab n f)) 3 1), (5001, e1), (5002, e2), (5003, e3), (5004, e4), (5005, e5), (5006, e6), (5007, e7), (5008, e8), (5009, e9), (5010, e10)]) :
    Calls Try.prog 157 #[.slice a n c, .int .i64 p, .int .i64 q, .int .i64 m, .func (.func 104) #[] #[.pointer (some ⟨cb, 0, none⟩)]] w fun e w' => ∃ g, e = .returned (.tuple #[]) ∧ Below B w w' ∧ Sat B w' [(5000, .row a n c (encI.enc (tab n g)) 3 1), (5001, e1), (5002, e2), (5003, e3), (5004, e4), (5005, e5), (5006, e6), (5007, e7), (5008, e8), (5009, e9), (5010, e10)] ∧ B ≤ w'.heap.size ∧ Kd (fun _ => False) w w' ∧ g = swF f p q m := by

  refine enterQ (N := 38) (C := fun _ => False) (H := [(5000, .row a n c (encI.enc (tab n f)) 3 1), (5001, e1), (5002, e2), (5003, e3), (5004, e4), (5005, e5), (5006, e6), (5007, e7), (5008, e8), (5009, e9), (5010, e10)]) (B := B) (args := [_, _, _, _, _]) Try.func157 rfl rfl rfl (hB) (hs) fun Q hQ => ?_
  refine wp_seq' fun K1 hK1 => ?_
  refine wp_reg ?_
  refine ol_r (r_assign rfl) rfl ?_
  refine ol_nil (to_k0 (fun _ _ h => h) (hK1 _ _ _ _ _ ?_))
  clear hK1
  refine wp_block' ?_
  apply wp_loopM (σ := Nat) (fun s => s ≤ m) (fun s => [(10, .int .i64 s)]) [(0, _), (1, _), (2, _), (3, _)] (fun s => [(5000, .row a n c (encI.enc (tab n (swF f p q s))) 3 1)]) [(5001, _), (5002, _), (5003, _), (5004, _), (5005, _), (5006, _), (5007, _), (5008, _), (5009, _), (5010, _)] (fun s => m - s) (0)
  ·try dsimp only
   exact Nat.zero_le _
  ·exact (sub_cons rfl sub_nil)
  ·exact (sub_cons rfl (sub_cons rfl (sub_cons rfl (sub_cons rfl sub_nil))))
  ·exact (subH_row rfl (by rw [swF_zero]) subH_nil)
  ·exact (subH_same rfl (subH_same rfl (subH_same rfl (subH_same rfl (subH_same rfl (subH_same rfl (subH_same rfl (subH_same rfl (subH_same rfl (subH_same rfl subH_nil))))))))))
  ·rintro k hk
   have hFl := tab_len n (swF f p q k)
   intro K2 hK2
   refine wp_seq' fun K3 hK3 => ?_
   refine wp_seq' fun K4 hK4 => ?_
   refine wp_reg ?_
   refine ol_r (r_move rfl) rfl ?_
   refine ol_r (r_move rfl) rfl ?_
   refine ol_r (r_lss rfl rfl) rfl ?_
   refine ol_nil (to_k0 (fun _ _ h => h) (hK4 _ _ _ _ _ ?_))
   clear hK4
   refine wp_condD rfl (fun hc13 => ?_) (fun hc13 => ?_)
   ·refine wp_skip' (to_k0 (fun _ _ h => h) (hK3 _ _ _ _ _ ?_))
    clear hK3
    refine wp_seq' fun K5 hK5 => ?_
    refine wp_block' ?_
    refine wp_rega [(999, [(5001, _), (5002, _), (5003, _), (5004, _), (5005, _), (5006, _), (5007, _), (5008, _), (5009, _), (5010, _)]), (21, [(5000, _)])] (by kernel_rfl) ⟨.inr (subH_same rfl (subH_same rfl (subH_same rfl (subH_same rfl (subH_same rfl (subH_same rfl (subH_same rfl (subH_same rfl (subH_same rfl (subH_same rfl subH_nil)))))))))), ⟨.inr (subH_same rfl subH_nil), trivial⟩⟩ ?_
    refine aq_r 0 999 rfl (by kernel_rfl) (by kernel_rfl) (by kernel_rfl) (.head _) (by kernel_rfl) (by kernel_rfl) rfl (r_move rfl) ?_
    refine aq_r 1 999 rfl (by kernel_rfl) (by kernel_rfl) (by kernel_rfl) (.head _) (by kernel_rfl) (by kernel_rfl) rfl (r_move rfl) ?_
    refine aq_r 2 999 rfl (by kernel_rfl) (by kernel_rfl) (by kernel_rfl) (.head _) (by kernel_rfl) (by kernel_rfl) rfl (r_move rfl) ?_
    refine aq_r 3 999 rfl (by kernel_rfl) (by kernel_rfl) (by kernel_rfl) (.head _) (by kernel_rfl) (by kernel_rfl) rfl (r_add rfl rfl (by omega)) ?_
    refine aq_r 4 999 rfl (by kernel_rfl) (by kernel_rfl) (by kernel_rfl) (.head _) (by kernel_rfl) (by kernel_rfl) rfl (r_move rfl) ?_
    refine aq_r 5 999 rfl (by kernel_rfl) (by kernel_rfl) (by kernel_rfl) (.head _) (by kernel_rfl) (by kernel_rfl) rfl (r_move rfl) ?_
    refine aq_r 6 999 rfl (by kernel_rfl) (by kernel_rfl) (by kernel_rfl) (.head _) (by kernel_rfl) (by kernel_rfl) rfl (r_move rfl) ?_
    refine aq_r 7 999 rfl (by kernel_rfl) (by kernel_rfl) (by kernel_rfl) (.head _) (by kernel_rfl) (by kernel_rfl) rfl (r_add rfl rfl (by omega)) ?_
    refine aq_r 8 999 rfl (by kernel_rfl) (by kernel_rfl) (by kernel_rfl) (.head _) (by kernel_rfl) (by kernel_rfl) rfl (r_move rfl) ?_
    refine aq_r 9 999 rfl (by kernel_rfl) (by kernel_rfl) (by kernel_rfl) (.head _) (by kernel_rfl) (by kernel_rfl) rfl (r_move rfl) ?_
    refine aq_r 10 999 rfl (by kernel_rfl) (by kernel_rfl) (by kernel_rfl) (.head _) (by kernel_rfl) (by kernel_rfl) rfl (r_move rfl) ?_
    refine aq_r 11 999 rfl (by kernel_rfl) (by kernel_rfl) (by kernel_rfl) (.head _) (by kernel_rfl) (by kernel_rfl) rfl (r_add rfl rfl (by omega)) ?_
    refine aq_ixo 12 21 rfl (by kernel_rfl) (by kernel_rfl) (by kernel_rfl) (.tail _ (.head _)) (by kernel_rfl) (by kernel_rfl) rfl (id := 5000) encI _ rfl rfl rfl rfl sl150 (by omega) (by omega) fun x28 hx28 => ?_
    try simp only [Int.toNat_natCast] at hx28
    try simp only [Int.toNat_natCast] at hx28
    refine aq_r 13 21 rfl (by kernel_rfl) (by kernel_rfl) (by kernel_rfl) (.tail _ (.head _)) (by kernel_rfl) (by kernel_rfl) rfl (r_ldw rfl (fun w1 hb1 hs1 hB1 => show Loads _ _ _ _ (.int .i64 x28) from ld_own (id := 5000) hs1 rfl rfl ty3 hx28)) ?_
    refine aq_r 14 999 rfl (by kernel_rfl) (by kernel_rfl) (by kernel_rfl) (.head _) (by kernel_rfl) (by kernel_rfl) rfl (r_move rfl) ?_
    refine aq_r 15 999 rfl (by kernel_rfl) (by kernel_rfl) (by kernel_rfl) (.head _) (by kernel_rfl) (by kernel_rfl) rfl (r_move rfl) ?_
    refine aq_r 16 999 rfl (by kernel_rfl) (by kernel_rfl) (by kernel_rfl) (.head _) (by kernel_rfl) (by kernel_rfl) rfl (r_move rfl) ?_
    refine aq_r 17 999 rfl (by kernel_rfl) (by kernel_rfl) (by kernel_rfl) (.head _) (by kernel_rfl) (by kernel_rfl) rfl (r_add rfl rfl (by omega)) ?_
    refine aq_one (i := 18) (by kernel_rfl) rfl fun K6 hK6 => ?_
    refine ol_ixo (id := 5000) encI _ rfl rfl rfl rfl sl150 (by omega) rfl fun x34 hx34 => ?_
    try simp only [Int.toNat_natCast] at hx34
    try simp only [Int.toNat_natCast] at hx34
    refine ol_nil (to_k0 (fun _ _ h => h) (hK6 _ _ ⟨.inr (by repeat' first | exact subH_nil | refine subH_same rfl ?_ | (refine subH_blk rfl (by repeat' first | exact sub_nil | refine sub_cons rfl ?_) ?_)), ⟨.inr (by repeat' first | exact subH_nil | refine subH_same rfl ?_ | (refine subH_blk rfl (by repeat' first | exact sub_nil | refine sub_cons rfl ?_) ?_)), trivial⟩⟩ ?_))
    clear hK6
    refine aq_r 19 21 rfl (by kernel_rfl) (by kernel_rfl) (by kernel_rfl) (.tail _ (.head _)) (by kernel_rfl) (by kernel_rfl) rfl (r_ldw rfl (fun w1 hb1 hs1 hB1 => show Loads _ _ _ _ (.int .i64 x34) from ld_own (id := 5000) hs1 rfl rfl ty3 hx34)) ?_
    refine aq_ixo 20 21 rfl (by kernel_rfl) (by kernel_rfl) (by kernel_rfl) (.tail _ (.head _)) (by kernel_rfl) (by kernel_rfl) rfl (id := 5000) encI _ rfl rfl rfl rfl sl150 (by omega) (by omega) fun x36 hx36 => ?_
    try simp only [Int.toNat_natCast] at hx36
    try simp only [Int.toNat_natCast] at hx36
    refine aq_one (i := 21) (by kernel_rfl) rfl fun K7 hK7 => ?_
    refine ol_storeRow (id := 5000) _ _ _ rfl rfl rfl rfl sz3 (by omega) ?_
    refine ol_nil (to_k0 (fun _ _ h => h) (hK7 _ _ ⟨.inr (by repeat' first | exact subH_nil | refine subH_same rfl ?_ | (refine subH_blk rfl (by repeat' first | exact sub_nil | refine sub_cons rfl ?_) ?_)), ⟨.inl (by kernel_rfl), trivial⟩⟩ ?_))
    clear hK7
    refine aq_one (i := 22) (by kernel_rfl) rfl fun K8 hK8 => ?_
    refine ol_ixo (id := 5000) encI _ rfl rfl rfl rfl sl150 (by omega) rfl fun x37 hx37 => ?_
    try simp only [Int.toNat_natCast] at hx37
    try simp only [Int.toNat_natCast] at hx37
    refine ol_nil (to_k0 (fun _ _ h => h) (hK8 _ _ ⟨.inr (by repeat' first | exact subH_nil | refine subH_same rfl ?_ | (refine subH_blk rfl (by repeat' first | exact sub_nil | refine sub_cons rfl ?_) ?_)), ⟨.inl (by kernel_rfl), trivial⟩⟩ ?_))
    clear hK8
    refine aq_one (i := 23) (by kernel_rfl) rfl fun K9 hK9 => ?_
    refine ol_storeRow (id := 5000) _ _ _ rfl rfl rfl rfl sz3 (by omega) ?_
    refine ol_nil (to_k0 (fun _ _ h => h) (hK9 _ _ ⟨.inr (by repeat' first | exact subH_nil | refine subH_same rfl ?_ | (refine subH_blk rfl (by repeat' first | exact sub_nil | refine sub_cons rfl ?_) ?_)), ⟨.inl (by kernel_rfl), trivial⟩⟩ ?_))
    clear hK9
    refine aq_done (by kernel_rfl) ?_
    refine (to_k0 (fun _ _ h => h) (hK5 _ _ _ _ _ ?_))
    clear hK5
    refine wp_reg ?_
    refine ol_r (r_move rfl) rfl ?_
    refine ol_r (r_add rfl rfl (by omega)) rfl ?_
    refine ol_r (r_assign rfl) rfl ?_
    refine ol_nil (to_k0 (fun _ _ h => h) (hK2 (k + 1) _ _ ?_ ?_ (sub_cons rfl sub_nil) (sub_cons rfl (sub_cons rfl (sub_cons rfl (sub_cons rfl sub_nil)))) (by exact (subH_row rfl (by (rw [swF_succ (by omega), sw_row (i := p + k) (j := q + k) (by omega) (by omega) ⟨_, by omega, hx28⟩ ⟨_, by omega, hx34⟩])) subH_nil)) (subH_same rfl (subH_same rfl (subH_same rfl (subH_same rfl (subH_same rfl (subH_same rfl (subH_same rfl (subH_same rfl (subH_same rfl (subH_same rfl subH_nil))))))))))))
    ·try dsimp only
     omega
    ·try dsimp only
     omega
   ·refine wp_exit' (hQ.fall rvs0 (fun _ _ h => h) fun w hb hs hB hkd => ?_)
    obtain rfl : k = m := by omega
    exact ⟨_, rfl, hb, hs.sub (subH_same rfl (subH_same rfl (subH_same rfl (subH_same rfl (subH_same rfl (subH_same rfl (subH_same rfl (subH_same rfl (subH_same rfl (subH_same rfl (subH_same rfl subH_nil))))))))))), hB, hkd, rfl⟩

theorem rotate_w (cf : Int → Int → Int) (Good : Int → Prop) (B : Nat) (cb : Nat) (a : Option Addr) (n c : Nat) (e1 e2 e3 e4 e5 e6 e7 e8 e9 e10 : Ent) (f : Nat → Int) (p m q : Nat) (w : World) (hB : B ≤ w.heap.size) (hn : n ≤ 1000000) (h1 : p < m) (h2 : m < q) (h3 : q ≤ n) (hs : Sat B w [(5000, .row a n c (encI.enc (tab n f)) 3 1), (5001, e1), (5002, e2), (5003, e3), (5004, e4), (5005, e5), (5006, e6), (5007, e7), (5008, e8), (5009, e9), (5010, e10)]) :
    Calls Try.prog 156 #[.slice a n c, .int .i64 p, .int .i64 m, .int .i64 q, .func (.func 104) #[] #[.pointer (some ⟨cb, 0, none⟩)]] w fun e w' => ∃ g, e = .returned (.tuple #[]) ∧ Below B w w' ∧ Sat B w' [(5000, .row a n c (encI.enc (tab n g)) 3 1), (5001, e1), (5002, e2), (5003, e3), (5004, e4), (5005, e5), (5006, e6), (5007, e7), (5008, e8), (5009, e9), (5010, e10)] ∧ B ≤ w'.heap.size ∧ Kd (fun _ => False) w w' ∧ g = rotF f p m q := by

  refine enterQ (N := 58) (C := fun _ => False) (H := [(5000, .row a n c (encI.enc (tab n f)) 3 1), (5001, e1), (5002, e2), (5003, e3), (5004, e4), (5005, e5), (5006, e6), (5007, e7), (5008, e8), (5009, e9), (5010, e10)]) (B := B) (args := [_, _, _, _, _]) Try.func156 rfl rfl rfl (hB) (hs) fun Q hQ => ?_
  refine wp_seq' fun K1 hK1 => ?_
  refine wp_reg ?_
  refine ol_r (r_move rfl) rfl ?_
  refine ol_r (r_move rfl) rfl ?_
  refine ol_r (r_subT (m - p) rfl rfl (by omega) (by omega)) rfl ?_
  refine ol_r (r_assign rfl) rfl ?_
  refine ol_nil (to_k0 (fun _ _ h => h) (hK1 _ _ _ _ _ ?_))
  clear hK1
  refine wp_seq' fun K2 hK2 => ?_
  refine wp_reg ?_
  refine ol_r (r_move rfl) rfl ?_
  refine ol_r (r_move rfl) rfl ?_
  refine ol_r (r_subT (q - m) rfl rfl (by omega) (by omega)) rfl ?_
  refine ol_r (r_assign rfl) rfl ?_
  refine ol_nil (to_k0 (fun _ _ h => h) (hK2 _ _ _ _ _ ?_))
  clear hK2
  refine wp_seq' fun K3 hK3 => ?_
  refine wp_block' ?_
  apply wp_loopM (σ := Nat × Nat × (Nat → Int)) (fun s => 0 < s.1 ∧ 0 < s.2.1 ∧ s.1 ≤ m - p ∧ s.2.1 ≤ q - m ∧ rotF s.2.2 (m - s.1) m (m + s.2.1) = rotF f p m q) (fun s => [(10, .int .i64 s.1), (11, .int .i64 s.2.1)]) [(0, _), (2, _), (4, _)] (fun s => [(5000, .row a n c (encI.enc (tab n s.2.2)) 3 1)]) [(5001, _), (5002, _), (5003, _), (5004, _), (5005, _), (5006, _), (5007, _), (5008, _), (5009, _), (5010, _)] (fun s => s.1 + s.2.1) ((m - p, q - m, f))
  ·try dsimp only
   exact ⟨by omega, by omega, Nat.le_refl _, Nat.le_refl _, by rw [show m - (m - p) = p by omega, show m + (q - m) = q by omega]⟩
  ·exact (sub_cons rfl (sub_cons rfl sub_nil))
  ·exact (sub_cons rfl (sub_cons rfl (sub_cons rfl sub_nil)))
  ·exact (subH_row rfl (by rfl) subH_nil)
  ·exact (subH_same rfl (subH_same rfl (subH_same rfl (subH_same rfl (subH_same rfl (subH_same rfl (subH_same rfl (subH_same rfl (subH_same rfl (subH_same rfl subH_nil))))))))))
  ·rintro ⟨i, j, F⟩ ⟨hi, hj, hi2, hj2, hF⟩
   dsimp only at hi hj hi2 hj2 hF ⊢
   intro K4 hK4
   refine wp_seq' fun K5 hK5 => ?_
   refine wp_seq' fun K6 hK6 => ?_
   refine wp_reg ?_
   skip
   refine ol_r (r_move rfl) rfl ?_
   refine ol_r (r_move rfl) rfl ?_
   refine ol_r (r_neq rfl rfl) rfl ?_
   refine ol_nil (to_k0 (fun _ _ h => h) (hK6 _ _ _ _ _ ?_))
   clear hK6
   refine wp_condD rfl (fun hc20 => ?_) (fun hc20 => ?_)
   ·refine wp_skip' (to_k0 (fun _ _ h => h) (hK5 _ _ _ _ _ ?_))
    clear hK5
    refine wp_block' ?_
    refine wp_seq' fun K7 hK7 => ?_
    refine wp_reg ?_
    refine ol_r (r_move rfl) rfl ?_
    refine ol_r (r_move rfl) rfl ?_
    refine ol_r (r_gtr rfl rfl) rfl ?_
    refine ol_nil (to_k0 (fun _ _ h => h) (hK7 _ _ _ _ _ ?_))
    clear hK7
    refine wp_condD rfl (fun hc23 => ?_) (fun hc23 => ?_)
    ·refine wp_seq' fun K8 hK8 => ?_
     refine wp_reg ?_
     refine ol_r (r_move rfl) rfl ?_
     refine ol_r (r_move rfl) rfl ?_
     refine ol_r (r_move rfl) rfl ?_
     refine ol_r (r_subT (m - i) rfl rfl (by omega) (by omega)) rfl ?_
     refine ol_r (r_move rfl) rfl ?_
     refine ol_r (r_move rfl) rfl ?_
     refine ol_r (r_move rfl) rfl ?_
     refine ol_call rfl rfl cb157 rfl (fun w1 hb1 hs1 hB1 => ?_)
     refine Calls.mono (swapRange_w cf Good B cb a n c e1 e2 e3 e4 e5 e6 e7 e8 e9 e10 F (m - i) m j _ hB1 hn (by omega) (by omega) (hs1.sub (subH_same rfl (subH_same rfl (subH_same rfl (subH_same rfl (subH_same rfl (subH_same rfl (subH_same rfl (subH_same rfl (subH_same rfl (subH_same rfl (subH_same rfl subH_nil))))))))))))) ?_
     rintro e w2 ⟨g, rfl, hb2, hs2, hB2, hk2, hg⟩
     refine After.sat rfl hb1 hb2 hs2 hB2 (hk2.imp fun _ h => h.elim) ?_
     clear hk2 hs2 hb2 hB2 hB1 hs1 hb1 w2 w1
     refine ol_nil (to_k0 (fun _ _ h => h) (hK8 _ _ _ _ _ ?_))
     clear hK8
     refine wp_reg ?_
     refine ol_r (r_move rfl) rfl ?_
     refine ol_r (r_move rfl) rfl ?_
     refine ol_r (r_subT (i - j) rfl rfl (by omega) (by omega)) rfl ?_
     refine ol_r (r_assign rfl) rfl ?_
     refine ol_nil (to_k0 (fun _ _ h => h) (hK4 ((_, _, _)) _ _ ?_ ?_ (sub_cons rfl (sub_cons rfl sub_nil)) (sub_cons rfl (sub_cons rfl (sub_cons rfl sub_nil))) (by exact (subH_row rfl (by rfl) subH_nil)) (subH_same rfl (subH_same rfl (subH_same rfl (subH_same rfl (subH_same rfl (subH_same rfl (subH_same rfl (subH_same rfl (subH_same rfl (subH_same rfl subH_nil))))))))))))
     ·try dsimp only
      first
        | exact ⟨by omega, by omega, by omega, by omega, by rw [hg, rot_gt (by omega) (by omega) (by omega)]; exact hF⟩
     ·try dsimp only
      omega
    ·refine wp_seq' fun K9 hK9 => ?_
     refine wp_reg ?_
     refine ol_r (r_move rfl) rfl ?_
     refine ol_r (r_move rfl) rfl ?_
     refine ol_r (r_move rfl) rfl ?_
     refine ol_r (r_subT (m - i) rfl rfl (by omega) (by omega)) rfl ?_
     refine ol_r (r_move rfl) rfl ?_
     refine ol_r (r_move rfl) rfl ?_
     refine ol_r (r_add rfl rfl (by omega)) rfl ?_
     refine ol_r (r_move rfl) rfl ?_
     refine ol_r (r_subT (m + j - i) rfl rfl (by omega) (by omega)) rfl ?_
     refine ol_r (r_move rfl) rfl ?_
     refine ol_r (r_move rfl) rfl ?_
     refine ol_call rfl rfl cb157 rfl (fun w1 hb1 hs1 hB1 => ?_)
     refine Calls.mono (swapRange_w cf Good B cb a n c e1 e2 e3 e4 e5 e6 e7 e8 e9 e10 F (m - i) (m + j - i) i _ hB1 hn (by omega) (by omega) (hs1.sub (subH_same rfl (subH_same rfl (subH_same rfl (subH_same rfl (subH_same rfl (subH_same rfl (subH_same rfl (subH_same rfl (subH_same rfl (subH_same rfl (subH_same rfl subH_nil))))))))))))) ?_
     rintro e w2 ⟨g, rfl, hb2, hs2, hB2, hk2, hg⟩
     refine After.sat rfl hb1 hb2 hs2 hB2 (hk2.imp fun _ h => h.elim) ?_
     clear hk2 hs2 hb2 hB2 hB1 hs1 hb1 w2 w1
     refine ol_nil (to_k0 (fun _ _ h => h) (hK9 _ _ _ _ _ ?_))
     clear hK9
     refine wp_reg ?_
     refine ol_r (r_move rfl) rfl ?_
     refine ol_r (r_move rfl) rfl ?_
     refine ol_r (r_subT (j - i) rfl rfl (by omega) (by omega)) rfl ?_
     refine ol_r (r_assign rfl) rfl ?_
     refine ol_nil (to_k0 (fun _ _ h => h) (hK4 ((_, _, _)) _ _ ?_ ?_ (sub_cons rfl (sub_cons rfl sub_nil)) (sub_cons rfl (sub_cons rfl (sub_cons rfl sub_nil))) (by exact (subH_row rfl (by rfl) subH_nil)) (subH_same rfl (subH_same rfl (subH_same rfl (subH_same rfl (subH_same rfl (subH_same rfl (subH_same rfl (subH_same rfl (subH_same rfl (subH_same rfl subH_nil))))))))))))
     ·try dsimp only
      first
        | exact ⟨by omega, by omega, by omega, by omega, by rw [hg, rot_lt (by omega) (by omega) (by omega)]; exact hF⟩
     ·try dsimp only
      omega
   ·refine wp_exit' (to_k0 (fun _ _ h => h) (hK3 _ _ _ _ _ ?_))
    clear hK3
    refine wp_reg ?_
    obtain rfl : i = j := by omega
    refine ol_r (r_move rfl) rfl ?_
    refine ol_r (r_move rfl) rfl ?_
    refine ol_r (r_move rfl) rfl ?_
    refine ol_r (r_subT (m - i) rfl rfl (by omega) (by omega)) rfl ?_
    refine ol_r (r_move rfl) rfl ?_
    refine ol_r (r_move rfl) rfl ?_
    refine ol_r (r_move rfl) rfl ?_
    refine ol_call rfl rfl cb157 rfl (fun w1 hb1 hs1 hB1 => ?_)
    refine Calls.mono (swapRange_w cf Good B cb a n c e1 e2 e3 e4 e5 e6 e7 e8 e9 e10 F (m - i) m i _ hB1 hn (by omega) (by omega) (hs1.sub (subH_same rfl (subH_same rfl (subH_same rfl (subH_same rfl (subH_same rfl (subH_same rfl (subH_same rfl (subH_same rfl (subH_same rfl (subH_same rfl (subH_same rfl subH_nil))))))))))))) ?_
    rintro e w2 ⟨g, rfl, hb2, hs2, hB2, hk2, hg⟩
    refine After.sat rfl hb1 hb2 hs2 hB2 (hk2.imp fun _ h => h.elim) ?_
    clear hk2 hs2 hb2 hB2 hB1 hs1 hb1 w2 w1
    refine ol_nil (hQ.fall rvs0 (fun _ _ h => h) fun w hb hs hB hkd => ?_)
    exact ⟨_, rfl, hb, hs.sub (subH_same rfl (subH_same rfl (subH_same rfl (subH_same rfl (subH_same rfl (subH_same rfl (subH_same rfl (subH_same rfl (subH_same rfl (subH_same rfl (subH_same rfl subH_nil))))))))))), hB, hkd, by rw [hg, rot_eq (by omega), hF]⟩

theorem insertion_w (cf : Int → Int → Int) (Good : Int → Prop) (B : Nat) (cb : Nat) (a : Option Addr) (n c : Nat) (e1 e2 e3 e4 e5 e6 e7 e8 e9 e10 : Ent) (f : Nat → Int) (p q : Nat) (w : World) (hw : Swo (ltC cf)) (hB : B ≤ w.heap.size) (hn : n ≤ 1000000) (h1 : q ≤ n) (hp : p ≤ n) (hG : ∀ i, i < n → Good (f i)) (hu : ∀ x y, p ≤ x → x < y → y < q → f x < f y) (hcmp : ∀ (w1 : World) (x y : Int), Good x → Good y → Sat B w1 [(5001, e1), (5002, e2)] → B ≤ w1.heap.size → Calls Try.prog 104 #[.int .i64 x, .int .i64 y, .pointer (some ⟨cb, 0, none⟩)] w1 fun e w' => e = .returned (.int .i64 (cf x y)) ∧ Below w1.heap.size w1 w') (hs : Sat B w [(5000, .row a n c (encI.enc (tab n f)) 3 1), (5001, e1), (5002, e2), (5003, e3), (5004, e4), (5005, e5), (5006, e6), (5007, e7), (5008, e8), (5009, e9), (5010, e10)]) :
    Calls Try.prog 145 #[.slice a n c, .int .i64 p, .int .i64 q, .func (.func 104) #[] #[.pointer (some ⟨cb, 0, none⟩)]] w fun e w' => ∃ g, e = .returned (.tuple #[]) ∧ Below B w w' ∧ Sat B w' [(5000, .row a n c (encI.enc (tab n g)) 3 1), (5001, e1), (5002, e2), (5003, e3), (5004, e4), (5005, e5), (5006, e6), (5007, e7), (5008, e8), (5009, e9), (5010, e10)] ∧ B ≤ w'.heap.size ∧ Kd (fun _ => False) w w' ∧ Blo (ltC cf) f g p q := by

  refine enterQ (N := 53) (C := fun _ => False) (H := [(5000, .row a n c (encI.enc (tab n f)) 3 1), (5001, e1), (5002, e2), (5003, e3), (5004, e4), (5005, e5), (5006, e6), (5007, e7), (5008, e8), (5009, e9), (5010, e10)]) (B := B) (args := [_, _, _, _]) Try.func145 rfl rfl rfl (hB) (hs) fun Q hQ => ?_
  refine wp_seq' fun K1 hK1 => ?_
  refine wp_reg ?_
  refine ol_r (r_move rfl) rfl ?_
  refine ol_r (r_addT (p + 1) rfl rfl (by omega) (by omega)) rfl ?_
  refine ol_r (r_assign rfl) rfl ?_
  refine ol_nil (to_k0 (fun _ _ h => h) (hK1 _ _ _ _ _ ?_))
  clear hK1
  refine wp_block' ?_
  apply wp_loopM (σ := Nat × (Nat → Int)) (fun s => p < s.1 ∧ (s.1 ≤ q ∨ s.1 = p + 1) ∧ SoR (ltC cf) s.2 p s.1 ∧ SaS f s.2 p s.1 ∧ (∀ x, x < p ∨ s.1 ≤ x → s.2 x = f x)) (fun s => [(8, .int .i64 s.1)]) [(0, _), (1, _), (2, _), (3, _)] (fun s => [(5000, .row a n c (encI.enc (tab n s.2)) 3 1)]) [(5001, _), (5002, _), (5003, _), (5004, _), (5005, _), (5006, _), (5007, _), (5008, _), (5009, _), (5010, _)] (fun s => q - s.1) ((p + 1, f))
  ·try dsimp only
   exact ⟨by omega, .inr rfl, fun x y h2 h3 h4 => by omega, SaS.refl _ _ _, fun _ _ => rfl⟩
  ·exact (sub_cons rfl sub_nil)
  ·exact (sub_cons rfl (sub_cons rfl (sub_cons rfl (sub_cons rfl sub_nil))))
  ·exact (subH_row rfl (by rfl) subH_nil)
  ·exact (subH_same rfl (subH_same rfl (subH_same rfl (subH_same rfl (subH_same rfl (subH_same rfl (subH_same rfl (subH_same rfl (subH_same rfl (subH_same rfl subH_nil))))))))))
  ·rintro ⟨i, F⟩ ⟨hi, hi2, hF1, hF2, hF3⟩
   dsimp only at hi hi2 hF1 hF2 hF3 ⊢
   intro K2 hK2
   refine wp_seq' fun K3 hK3 => ?_
   refine wp_seq' fun K4 hK4 => ?_
   refine wp_reg ?_
   refine ol_r (r_move rfl) rfl ?_
   refine ol_r (r_move rfl) rfl ?_
   refine ol_r (r_lss rfl rfl) rfl ?_
   refine ol_nil (to_k0 (fun _ _ h => h) (hK4 _ _ _ _ _ ?_))
   clear hK4
   refine wp_condD rfl (fun hc14 => ?_) (fun hc14 => ?_)
   ·refine wp_skip' (to_k0 (fun _ _ h => h) (hK3 _ _ _ _ _ ?_))
    clear hK3
    refine wp_seq' fun K5 hK5 => ?_
    refine wp_block' ?_
    refine wp_seq' fun K6 hK6 => ?_
    refine wp_reg ?_
    refine ol_r (r_move rfl) rfl ?_
    refine ol_r (r_assign rfl) rfl ?_
    refine ol_nil (to_k0 (fun _ _ h => h) (hK6 _ _ _ _ _ ?_))
    clear hK6
    refine wp_block' ?_
    apply wp_loopM (σ := Nat × (Nat → Int)) (fun s => p ≤ s.1 ∧ s.1 ≤ i ∧ InsI (ltC cf) F s.2 p i s.1) (fun s => [(9, .int .i64 s.1)]) [(0, _), (1, _), (2, _), (3, _), (8, _)] (fun s => [(5000, .row a n c (encI.enc (tab n s.2)) 3 1)]) [(5001, _), (5002, _), (5003, _), (5004, _), (5005, _), (5006, _), (5007, _), (5008, _), (5009, _), (5010, _)] (fun s => s.1) ((i, F))
    ·try dsimp only
     refine ⟨by omega, Nat.le_refl _, InsI.start hF1 fun x h2 h3 => ?_⟩
     obtain ⟨y, y1, y2, y3⟩ := hF2.2 x h2 h3
     rw [y3, hF3 i (by omega)]
     exact hu y i y1 y2 (by omega)
    ·exact (sub_cons rfl sub_nil)
    ·exact (sub_cons rfl (sub_cons rfl (sub_cons rfl (sub_cons rfl (sub_cons rfl sub_nil)))))
    ·exact (subH_row rfl (by rfl) subH_nil)
    ·exact (subH_same rfl (subH_same rfl (subH_same rfl (subH_same rfl (subH_same rfl (subH_same rfl (subH_same rfl (subH_same rfl (subH_same rfl (subH_same rfl subH_nil))))))))))
    ·rintro ⟨j, G⟩ ⟨hj1, hj2, hI⟩
     dsimp only at hj1 hj2 hI ⊢
     have hGl := tab_len n G
     have hF2s : SaS f F p (i + 1) := hF2.widen (Nat.le_refl _) (Nat.le_succ _) (by omega) hF3
     have hGg : ∀ k, k < n → Good (G k) := good_of hG (((hF2s.trans hI.sa).widen (Nat.zero_le _) (show i + 1 ≤ n by omega) (by omega) fun x hx => by rw [hI.out x (by omega)]; exact hF3 x (by omega)))
     intro K7 hK7
     refine wp_seq' fun K8 hK8 => ?_
     refine wp_seq' fun K9 hK9 => ?_
     refine wp_regq (by kernel_rfl) (by kernel_rfl) ?_
     refine ql_r (r_move rfl) rfl ?_
     refine ql_r (r_move rfl) rfl ?_
     refine ql_r (r_gtr rfl rfl) rfl ?_
     refine ql_r (r_move rfl) rfl ?_
     refine ql_split (d := 21) rfl (fun hs21 => ?_) (fun hs21 => ?_)
     ·have phs21 := hs21; try simp only [decide_eq_true_eq, decide_eq_false_iff_not, Bool.not_eq_true', Bool.not_eq_false', Bool.not_true, Bool.not_false] at phs21
      refine ql_g rfl rfl hs21 ?_
      refine ql_r (r_move rfl) rfl ?_
      refine ql_g rfl rfl hs21 ?_
      refine ql_r (r_move rfl) rfl ?_
      refine ql_g rfl rfl hs21 ?_
      refine ql_r (r_move rfl) rfl ?_
      refine ql_g rfl rfl hs21 ?_
      refine ql_ixo (id := 5000) encI _ rfl rfl rfl rfl sl150 (by omega) (by omega) rfl fun x25 hx25 => ?_
      try simp only [Int.toNat_natCast] at hx25
      try simp only [Int.toNat_natCast] at hx25
      refine ql_g rfl rfl hs21 ?_
      refine ql_r (r_ldw rfl (fun w1 hb1 hs1 hB1 => show Loads _ _ _ _ (.int .i64 x25) from ld_own (id := 5000) hs1 rfl rfl ty3 hx25)) rfl ?_
      refine ql_g rfl rfl hs21 ?_
      refine ql_r (r_move rfl) rfl ?_
      refine ql_g rfl rfl hs21 ?_
      refine ql_r (r_move rfl) rfl ?_
      refine ql_g rfl rfl hs21 ?_
      refine ql_r (r_sub rfl rfl (by omega)) rfl ?_
      refine ql_g rfl rfl hs21 ?_
      refine ql_ixo (id := 5000) encI _ rfl rfl rfl rfl sl150 (by omega) (by omega) rfl fun x30 hx30 => ?_
      try simp only [Int.toNat_natCast] at hx30
      try simp only [Int.toNat_natCast] at hx30
      refine ql_g rfl rfl hs21 ?_
      refine ql_r (r_ldw rfl (fun w1 hb1 hs1 hB1 => show Loads _ _ _ _ (.int .i64 x30) from ld_own (id := 5000) hs1 rfl rfl ty3 hx30)) rfl ?_
      refine ql_g rfl rfl hs21 ?_
      have hx25' := hx25
      have hx30' := hx30
      rw [show (((j : Nat) : Int) - 1).toNat = j - 1 by omega] at hx30'
      refine ql_call rfl rfl cb104 rfl (fun w1 hb1 hs1 hB1 => hcmp _ _ _ (by rw [← tab_eq hx25]; exact hGg _ (by omega)) (by rw [← tab_eq hx30]; exact hGg _ (by omega)) (hs1.sub (subH_same rfl (subH_same rfl subH_nil))) hB1) ?_
      refine ql_g rfl rfl hs21 ?_
      refine ql_r (r_lss rfl rfl) rfl ?_
      refine ql_r (r_pickT rfl hs21 rfl) rfl ?_
      refine ql_nil (to_k0 (fun _ _ h => h) (hK9 _ _ _ _ _ ?_))
      clear hK9
      refine wp_condD rfl (fun hc34 => ?_) (fun hc34 => ?_)
      ·refine wp_skip' (to_k0 (fun _ _ h => h) (hK8 _ _ _ _ _ ?_))
       clear hK8
       refine wp_seq' fun K10 hK10 => ?_
       refine wp_block' ?_
       refine wp_rega [(999, [(5001, _), (5002, _), (5003, _), (5004, _), (5005, _), (5006, _), (5007, _), (5008, _), (5009, _), (5010, _)]), (15, [(5000, _)])] (by kernel_rfl) ⟨.inr (subH_same rfl (subH_same rfl (subH_same rfl (subH_same rfl (subH_same rfl (subH_same rfl (subH_same rfl (subH_same rfl (subH_same rfl (subH_same rfl subH_nil)))))))))), ⟨.inr (subH_same rfl subH_nil), trivial⟩⟩ ?_
       refine aq_r 0 999 rfl (by kernel_rfl) (by kernel_rfl) (by kernel_rfl) (.head _) (by kernel_rfl) (by kernel_rfl) rfl (r_move rfl) ?_
       refine aq_r 1 999 rfl (by kernel_rfl) (by kernel_rfl) (by kernel_rfl) (.head _) (by kernel_rfl) (by kernel_rfl) rfl (r_move rfl) ?_
       refine aq_r 2 999 rfl (by kernel_rfl) (by kernel_rfl) (by kernel_rfl) (.head _) (by kernel_rfl) (by kernel_rfl) rfl (r_move rfl) ?_
       refine aq_r 3 999 rfl (by kernel_rfl) (by kernel_rfl) (by kernel_rfl) (.head _) (by kernel_rfl) (by kernel_rfl) rfl (r_move rfl) ?_
       refine aq_r 4 999 rfl (by kernel_rfl) (by kernel_rfl) (by kernel_rfl) (.head _) (by kernel_rfl) (by kernel_rfl) rfl (r_sub rfl rfl (by omega)) ?_
       refine aq_r 5 999 rfl (by kernel_rfl) (by kernel_rfl) (by kernel_rfl) (.head _) (by kernel_rfl) (by kernel_rfl) rfl (r_move rfl) ?_
       refine aq_r 6 999 rfl (by kernel_rfl) (by kernel_rfl) (by kernel_rfl) (.head _) (by kernel_rfl) (by kernel_rfl) rfl (r_move rfl) ?_
       refine aq_r 7 999 rfl (by kernel_rfl) (by kernel_rfl) (by kernel_rfl) (.head _) (by kernel_rfl) (by kernel_rfl) rfl (r_sub rfl rfl (by omega)) ?_
       refine aq_ixo 8 15 rfl (by kernel_rfl) (by kernel_rfl) (by kernel_rfl) (.tail _ (.head _)) (by kernel_rfl) (by kernel_rfl) rfl (id := 5000) encI _ rfl rfl rfl rfl sl150 (by omega) (by omega) fun x45 hx45 => ?_
       try simp only [Int.toNat_natCast] at hx45
       try simp only [Int.toNat_natCast] at hx45
       refine aq_r 9 15 rfl (by kernel_rfl) (by kernel_rfl) (by kernel_rfl) (.tail _ (.head _)) (by kernel_rfl) (by kernel_rfl) rfl (r_ldw rfl (fun w1 hb1 hs1 hB1 => show Loads _ _ _ _ (.int .i64 x45) from ld_own (id := 5000) hs1 rfl rfl ty3 hx45)) ?_
       refine aq_r 10 999 rfl (by kernel_rfl) (by kernel_rfl) (by kernel_rfl) (.head _) (by kernel_rfl) (by kernel_rfl) rfl (r_move rfl) ?_
       refine aq_r 11 999 rfl (by kernel_rfl) (by kernel_rfl) (by kernel_rfl) (.head _) (by kernel_rfl) (by kernel_rfl) rfl (r_move rfl) ?_
       refine aq_one (i := 12) (by kernel_rfl) rfl fun K11 hK11 => ?_
       refine ol_ixo (id := 5000) encI _ rfl rfl rfl rfl sl150 (by omega) rfl fun x49 hx49 => ?_
       try simp only [Int.toNat_natCast] at hx49
       try simp only [Int.toNat_natCast] at hx49
       refine ol_nil (to_k0 (fun _ _ h => h) (hK11 _ _ ⟨.inr (by repeat' first | exact subH_nil | refine subH_same rfl ?_ | (refine subH_blk rfl (by repeat' first | exact sub_nil | refine sub_cons rfl ?_) ?_)), ⟨.inr (by repeat' first | exact subH_nil | refine subH_same rfl ?_ | (refine subH_blk rfl (by repeat' first | exact sub_nil | refine sub_cons rfl ?_) ?_)), trivial⟩⟩ ?_))
       clear hK11
       refine aq_r 13 15 rfl (by kernel_rfl) (by kernel_rfl) (by kernel_rfl) (.tail _ (.head _)) (by kernel_rfl) (by kernel_rfl) rfl (r_ldw rfl (fun w1 hb1 hs1 hB1 => show Loads _ _ _ _ (.int .i64 x49) from ld_own (id := 5000) hs1 rfl rfl ty3 hx49)) ?_
       refine aq_ixo 14 15 rfl (by kernel_rfl) (by kernel_rfl) (by kernel_rfl) (.tail _ (.head _)) (by kernel_rfl) (by kernel_rfl) rfl (id := 5000) encI _ rfl rfl rfl rfl sl150 (by omega) (by omega) fun x51 hx51 => ?_
       try simp only [Int.toNat_natCast] at hx51
       try simp only [Int.toNat_natCast] at hx51
       refine aq_one (i := 15) (by kernel_rfl) rfl fun K12 hK12 => ?_
       refine ol_storeRow (id := 5000) _ _ _ rfl rfl rfl rfl sz3 (by omega) ?_
       refine ol_nil (to_k0 (fun _ _ h => h) (hK12 _ _ ⟨.inr (by repeat' first | exact subH_nil | refine subH_same rfl ?_ | (refine subH_blk rfl (by repeat' first | exact sub_nil | refine sub_cons rfl ?_) ?_)), ⟨.inl (by kernel_rfl), trivial⟩⟩ ?_))
       clear hK12
       refine aq_one (i := 16) (by kernel_rfl) rfl fun K13 hK13 => ?_
       refine ol_ixo (id := 5000) encI _ rfl rfl rfl rfl sl150 (by omega) rfl fun x52 hx52 => ?_
       try simp only [Int.toNat_natCast] at hx52
       try simp only [Int.toNat_natCast] at hx52
       refine ol_nil (to_k0 (fun _ _ h => h) (hK13 _ _ ⟨.inr (by repeat' first | exact subH_nil | refine subH_same rfl ?_ | (refine subH_blk rfl (by repeat' first | exact sub_nil | refine sub_cons rfl ?_) ?_)), ⟨.inl (by kernel_rfl), trivial⟩⟩ ?_))
       clear hK13
       refine aq_one (i := 17) (by kernel_rfl) rfl fun K14 hK14 => ?_
       refine ol_storeRow (id := 5000) _ _ _ rfl rfl rfl rfl sz3 (by omega) ?_
       refine ol_nil (to_k0 (fun _ _ h => h) (hK14 _ _ ⟨.inr (by repeat' first | exact subH_nil | refine subH_same rfl ?_ | (refine subH_blk rfl (by repeat' first | exact sub_nil | refine sub_cons rfl ?_) ?_)), ⟨.inl (by kernel_rfl), trivial⟩⟩ ?_))
       clear hK14
       refine aq_done (by kernel_rfl) ?_
       refine (to_k0 (fun _ _ h => h) (hK10 _ _ _ _ _ ?_))
       clear hK10
       refine wp_reg ?_
       refine ol_r (r_move rfl) rfl ?_
       refine ol_r (r_subT (j - 1) rfl rfl (by omega) (by omega)) rfl ?_
       refine ol_r (r_assign rfl) rfl ?_
       refine ol_nil (to_k0 (fun _ _ h => h) (hK7 ((_, sw2 G j (j - 1))) _ _ ?_ ?_ (sub_cons rfl sub_nil) (sub_cons rfl (sub_cons rfl (sub_cons rfl (sub_cons rfl (sub_cons rfl sub_nil))))) (by exact (subH_row rfl (by dsimp only; (rw [sw_row (i := j) (j := j - 1) (by omega) (by omega) ⟨_, by omega, hx45⟩ ⟨_, by omega, hx49⟩])) subH_nil)) (subH_same rfl (subH_same rfl (subH_same rfl (subH_same rfl (subH_same rfl (subH_same rfl (subH_same rfl (subH_same rfl (subH_same rfl (subH_same rfl subH_nil))))))))))))
       ·try dsimp only
        exact ⟨by omega, by omega, hI.step (by omega) hj2 (ltC_t (by rw [tab_eq hx25', tab_eq hx30']; exact hc34))⟩
       ·try dsimp only
        omega
      ·refine wp_exit' (to_k0 (fun _ _ h => h) (hK5 _ _ _ _ _ ?_))
       clear hK5
       refine wp_reg ?_
       refine ol_r (r_move rfl) rfl ?_
       refine ol_r (r_addT (i + 1) rfl rfl (by omega) (by omega)) rfl ?_
       refine ol_r (r_assign rfl) rfl ?_
       refine ol_nil (to_k0 (fun _ _ h => h) (hK2 ((_, _)) _ _ ?_ ?_ (sub_cons rfl sub_nil) (sub_cons rfl (sub_cons rfl (sub_cons rfl (sub_cons rfl sub_nil)))) (by exact (subH_row rfl (by rfl) subH_nil)) (subH_same rfl (subH_same rfl (subH_same rfl (subH_same rfl (subH_same rfl (subH_same rfl (subH_same rfl (subH_same rfl (subH_same rfl (subH_same rfl subH_nil))))))))))))
       ·try dsimp only
        exact ⟨by omega, by omega, hI.stop hw hj1 hj2 (by first | exact .inl (by omega) | exact .inr (ltC_f (by rw [tab_eq hx25', tab_eq hx30']; exact hc34))), hF2s.trans hI.sa, fun x hx => by rw [hI.out x (by omega)]; exact hF3 x (by omega)⟩
       ·try dsimp only
        omega
     ·have phs21 := hs21; try simp only [decide_eq_true_eq, decide_eq_false_iff_not, Bool.not_eq_true', Bool.not_eq_false', Bool.not_true, Bool.not_false] at phs21
      refine ql_s rfl rfl hs21 rfl ?_
      refine ql_s rfl rfl hs21 rfl ?_
      refine ql_s rfl rfl hs21 rfl ?_
      refine ql_s rfl rfl hs21 rfl ?_
      refine ql_s rfl rfl hs21 rfl ?_
      refine ql_s rfl rfl hs21 rfl ?_
      refine ql_s rfl rfl hs21 rfl ?_
      refine ql_s rfl rfl hs21 rfl ?_
      refine ql_s rfl rfl hs21 rfl ?_
      refine ql_s rfl rfl hs21 rfl ?_
      refine ql_s rfl rfl hs21 rfl ?_
      refine ql_s rfl rfl hs21 rfl ?_
      refine ql_r (r_pickF rfl hs21 rfl) rfl ?_
      refine ql_nil (to_k0 (fun _ _ h => h) (hK9 _ _ _ _ _ ?_))
      clear hK9
      refine wp_condF rfl ?_
      refine wp_exit' (to_k0 (fun _ _ h => h) (hK5 _ _ _ _ _ ?_))
      clear hK5
      refine wp_reg ?_
      refine ol_r (r_move rfl) rfl ?_
      refine ol_r (r_addT (i + 1) rfl rfl (by omega) (by omega)) rfl ?_
      refine ol_r (r_assign rfl) rfl ?_
      refine ol_nil (to_k0 (fun _ _ h => h) (hK2 ((_, _)) _ _ ?_ ?_ (sub_cons rfl sub_nil) (sub_cons rfl (sub_cons rfl (sub_cons rfl (sub_cons rfl sub_nil)))) (by exact (subH_row rfl (by rfl) subH_nil)) (subH_same rfl (subH_same rfl (subH_same rfl (subH_same rfl (subH_same rfl (subH_same rfl (subH_same rfl (subH_same rfl (subH_same rfl (subH_same rfl subH_nil))))))))))))
      ·try dsimp only
       exact ⟨by omega, by omega, hI.stop hw hj1 hj2 (by first | exact .inl (by omega) | exact .inr (ltC_f (by rw [tab_eq hx25', tab_eq hx30']; exact hc34))), hF2s.trans hI.sa, fun x hx => by rw [hI.out x (by omega)]; exact hF3 x (by omega)⟩
      ·try dsimp only
       omega
   ·refine wp_exit' (hQ.fall rvs0 (fun _ _ h => h) fun w hb hs hB hkd => ?_)
    refine ⟨F, rfl, hb, hs.sub (subH_same rfl (subH_same rfl (subH_same rfl (subH_same rfl (subH_same rfl (subH_same rfl (subH_same rfl (subH_same rfl (subH_same rfl (subH_same rfl (subH_same rfl subH_nil))))))))))), hB, hkd, ?_⟩
    rcases hi2 with h | h
    · obtain rfl : i = q := by omega
      exact ⟨hF1, hF2, hF3⟩
    · subst h
      have hFf : F = f := by
        funext x
        by_cases hx : x = p
        · subst hx
          obtain ⟨y, y1, y2, y3⟩ := hF2.2 x (Nat.le_refl _) (by omega)
          rw [y3]; congr 1; omega
        · exact hF3 x (by omega)
      subst hFf
      exact ⟨fun x y h2 h3 h4 => by omega, SaS.refl _ _ _, fun _ _ => rfl⟩

theorem symMerge_w (cf : Int → Int → Int) (Good : Int → Prop) (B : Nat) (cb : Nat) (a : Option Addr) (n c : Nat) (e1 e2 e3 e4 e5 e6 e7 e8 e9 e10 : Ent) (hw : Swo (ltC cf)) (hn : n ≤ 1000000) (hcmp : ∀ (w1 : World) (x y : Int), Good x → Good y → Sat B w1 [(5001, e1), (5002, e2)] → B ≤ w1.heap.size → Calls Try.prog 104 #[.int .i64 x, .int .i64 y, .pointer (some ⟨cb, 0, none⟩)] w1 fun e w' => e = .returned (.int .i64 (cf x y)) ∧ Below w1.heap.size w1 w') : ∀ (N : Nat) (p m q : Nat) (f : Nat → Int) (w : World), q - p ≤ N → B ≤ w.heap.size → p < m → m < q → q ≤ n → (∀ i, i < n → Good (f i)) → MrgI (ltC cf) f p m q → Sat B w [(5000, .row a n c (encI.enc (tab n f)) 3 1), (5001, e1), (5002, e2), (5003, e3), (5004, e4), (5005, e5), (5006, e6), (5007, e7), (5008, e8), (5009, e9), (5010, e10)] →
    Calls Try.prog 146 #[.slice a n c, .int .i64 p, .int .i64 m, .int .i64 q, .func (.func 104) #[] #[.pointer (some ⟨cb, 0, none⟩)]] w fun e w' => ∃ g, e = .returned (.tuple #[]) ∧ Below B w w' ∧ Sat B w' [(5000, .row a n c (encI.enc (tab n g)) 3 1), (5001, e1), (5002, e2), (5003, e3), (5004, e4), (5005, e5), (5006, e6), (5007, e7), (5008, e8), (5009, e9), (5010, e10)] ∧ B ≤ w'.heap.size ∧ Kd (fun _ => False) w w' ∧ Blo (ltC cf) f g p q := by
  intro N
  induction N with
  | zero => intro p m q f w h1 h2 h3 h4; omega
  | succ N ih =>
  intro p m q f w hN hB h1 h2 h3 hG hM hs
  have hfl := tab_len n f

  refine enterQ (N := 220) (C := fun _ => False) (H := [(5000, .row a n c (encI.enc (tab n f)) 3 1), (5001, e1), (5002, e2), (5003, e3), (5004, e4), (5005, e5), (5006, e6), (5007, e7), (5008, e8), (5009, e9), (5010, e10)]) (B := B) (args := [_, _, _, _, _]) Try.func146 rfl rfl rfl (hB) (hs) fun Q hQ => ?_
  refine wp_seq' fun K1 hK1 => ?_
  refine wp_seq' fun K2 hK2 => ?_
  refine wp_reg ?_
  refine ol_r (r_move rfl) rfl ?_
  refine ol_r (r_move rfl) rfl ?_
  refine ol_r (r_sub rfl rfl (by omega)) rfl ?_
  refine ol_r (r_eql rfl rfl) rfl ?_
  refine ol_nil (to_k0 (fun _ _ h => h) (hK2 _ _ _ _ _ ?_))
  clear hK2
  refine wp_condD rfl (fun hc28 => ?_) (fun hc28 => ?_)
  ·refine wp_seq' fun K3 hK3 => ?_
   refine wp_reg ?_
   refine ol_r (r_move rfl) rfl ?_
   refine ol_r (r_assign rfl) rfl ?_
   refine ol_nil (to_k0 (fun _ _ h => h) (hK3 _ _ _ _ _ ?_))
   clear hK3
   refine wp_seq' fun K4 hK4 => ?_
   refine wp_reg ?_
   refine ol_r (r_move rfl) rfl ?_
   refine ol_r (r_assign rfl) rfl ?_
   refine ol_nil (to_k0 (fun _ _ h => h) (hK4 _ _ _ _ _ ?_))
   clear hK4
   refine wp_seq' fun K5 hK5 => ?_
   refine wp_block' ?_
   apply wp_loopM (σ := Nat × Nat) (fun s => m ≤ s.1 ∧ s.1 ≤ s.2 ∧ s.2 ≤ q ∧ (∀ x, m ≤ x → x < s.1 → ltC cf (f x) (f p) = true) ∧ (∀ x, s.2 ≤ x → x < q → ltC cf (f x) (f p) = false)) (fun s => [(10, .int .i64 s.1), (11, .int .i64 s.2)]) [(0, _), (1, _), (2, _), (3, _), (4, _)] (fun s => []) [(5000, _), (5001, _), (5002, _), (5003, _), (5004, _), (5005, _), (5006, _), (5007, _), (5008, _), (5009, _), (5010, _)] (fun s => s.2 - s.1) ((m, q))
   ·try dsimp only
    exact ⟨Nat.le_refl _, by omega, Nat.le_refl _, fun x h4 h5 => by omega, fun x h4 h5 => by omega⟩
   ·exact (sub_cons rfl (sub_cons rfl sub_nil))
   ·exact (sub_cons rfl (sub_cons rfl (sub_cons rfl (sub_cons rfl (sub_cons rfl sub_nil)))))
   ·exact subH_nil
   ·exact (subH_same rfl (subH_same rfl (subH_same rfl (subH_same rfl (subH_same rfl (subH_same rfl (subH_same rfl (subH_same rfl (subH_same rfl (subH_same rfl (subH_same rfl subH_nil)))))))))))
   ·rintro ⟨i, j⟩ ⟨hi, hij, hj, hlo, hhi⟩
    dsimp only at hi hij hj hlo hhi ⊢
    intro K6 hK6
    refine wp_seq' fun K7 hK7 => ?_
    refine wp_seq' fun K8 hK8 => ?_
    refine wp_reg ?_
    refine ol_r (r_move rfl) rfl ?_
    refine ol_r (r_move rfl) rfl ?_
    refine ol_r (r_lss rfl rfl) rfl ?_
    refine ol_nil (to_k0 (fun _ _ h => h) (hK8 _ _ _ _ _ ?_))
    clear hK8
    refine wp_condD rfl (fun hc33 => ?_) (fun hc33 => ?_)
    ·refine wp_skip' (to_k0 (fun _ _ h => h) (hK7 _ _ _ _ _ ?_))
     clear hK7
     refine wp_block' ?_
     refine wp_seq' fun K9 hK9 => ?_
     refine wp_reg ?_
     refine ol_r (r_move rfl) rfl ?_
     refine ol_r (r_move rfl) rfl ?_
     refine ol_r (r_add rfl rfl (by omega)) rfl ?_
     refine ol_r (r_conv (k2 := .u64) rfl (by kernel_rfl) (by kernel_rfl) (wrap_u64 (by omega))) rfl ?_
     refine ol_r (r_shr1 rfl rfl) rfl ?_
     refine ol_r (r_conv (k2 := .i64) rfl (by kernel_rfl) (by kernel_rfl) (IntWalk.i64_in _ (by omega))) rfl ?_
     obtain ⟨h, hh⟩ : ∃ h : Nat, ((i : Int) + (j : Int)) / 2 = h := ⟨(i + j) / 2, by omega⟩
     rw [hh]
     refine ol_r (r_assign rfl) rfl ?_
     refine ol_nil (to_k0 (fun _ _ h => h) (hK9 _ _ _ _ _ ?_))
     clear hK9
     refine wp_seq' fun K10 hK10 => ?_
     refine wp_regq (by kernel_rfl) (by kernel_rfl) ?_
     refine ql_r (r_move rfl) rfl ?_
     refine ql_r (r_move rfl) rfl ?_
     refine ql_r (r_move rfl) rfl ?_
     refine ql_ixo (id := 5000) encI _ rfl rfl rfl rfl sl150 (by omega) (by omega) rfl fun x43 hx43 => ?_
     try simp only [Int.toNat_natCast] at hx43
     try simp only [Int.toNat_natCast] at hx43
     refine ql_r (r_ldw rfl (fun w1 hb1 hs1 hB1 => show Loads _ _ _ _ (.int .i64 x43) from ld_own (id := 5000) hs1 rfl rfl ty3 hx43)) rfl ?_
     refine ql_r (r_move rfl) rfl ?_
     refine ql_r (r_move rfl) rfl ?_
     refine ql_ixo (id := 5000) encI _ rfl rfl rfl rfl sl150 (by omega) (by omega) rfl fun x47 hx47 => ?_
     try simp only [Int.toNat_natCast] at hx47
     try simp only [Int.toNat_natCast] at hx47
     refine ql_r (r_ldw rfl (fun w1 hb1 hs1 hB1 => show Loads _ _ _ _ (.int .i64 x47) from ld_own (id := 5000) hs1 rfl rfl ty3 hx47)) rfl ?_
     refine ql_call rfl rfl cb104 rfl (fun w1 hb1 hs1 hB1 => hcmp _ _ _ (by rw [← tab_eq hx43]; exact hG _ (by omega)) (by rw [← tab_eq hx47]; exact hG _ (by omega)) (hs1.sub (subH_same rfl (subH_same rfl subH_nil))) hB1) ?_
     refine ql_r (r_lss rfl rfl) rfl ?_
     refine ql_nil (to_k0 (fun _ _ h => h) (hK10 _ _ _ _ _ ?_))
     clear hK10
     refine wp_condD rfl (fun hc50 => ?_) (fun hc50 => ?_)
     ·refine wp_reg ?_
      refine ol_r (r_move rfl) rfl ?_
      refine ol_r (r_addT (h + 1) rfl rfl (by omega) (by omega)) rfl ?_
      refine ol_r (r_assign rfl) rfl ?_
      refine ol_nil (to_k0 (fun _ _ h => h) (hK6 ((_, _)) _ _ ?_ ?_ (sub_cons rfl (sub_cons rfl sub_nil)) (sub_cons rfl (sub_cons rfl (sub_cons rfl (sub_cons rfl (sub_cons rfl sub_nil))))) (by exact subH_nil) (subH_same rfl (subH_same rfl (subH_same rfl (subH_same rfl (subH_same rfl (subH_same rfl (subH_same rfl (subH_same rfl (subH_same rfl (subH_same rfl (subH_same rfl subH_nil)))))))))))))
      ·try dsimp only
       first
         | exact ⟨by omega, by omega, by omega, fun x x1 x2 => by
             have hc : ltC cf (f h) (f p) = true := ltC_t (by rw [tab_eq hx43, tab_eq hx47]; exact hc50)
             by_cases hx : x = h
             · rw [hx]; exact hc
             · exact RR.lt_left hw (hM.r x h x1 (by omega) (by omega)) hc, hhi⟩
      ·try dsimp only
       omega
     ·refine wp_reg ?_
      refine ol_r (r_move rfl) rfl ?_
      refine ol_r (r_assign rfl) rfl ?_
      refine ol_nil (to_k0 (fun _ _ h => h) (hK6 ((_, _)) _ _ ?_ ?_ (sub_cons rfl (sub_cons rfl sub_nil)) (sub_cons rfl (sub_cons rfl (sub_cons rfl (sub_cons rfl (sub_cons rfl sub_nil))))) (by exact subH_nil) (subH_same rfl (subH_same rfl (subH_same rfl (subH_same rfl (subH_same rfl (subH_same rfl (subH_same rfl (subH_same rfl (subH_same rfl (subH_same rfl (subH_same rfl subH_nil)))))))))))))
      ·try dsimp only
       first
         | exact ⟨by omega, by omega, by omega, hlo, fun x x1 x2 => by
             have hc : ltC cf (f h) (f p) = false := ltC_f (by rw [tab_eq hx43, tab_eq hx47]; exact hc50)
             by_cases hx : x = h
             · rw [hx]; exact hc
             · cases h9 : ltC cf (f x) (f p) with
               | false => rfl
               | true => have := RR.lt_left hw (hM.r h x (by omega) (by omega) x2) h9; rw [hc] at this; cases this⟩
      ·try dsimp only
       omega
    ·refine wp_exit' (to_k0 (fun _ _ h => h) (hK5 _ _ _ _ _ ?_))
     clear hK5
     refine wp_seq' fun K11 hK11 => ?_
     refine wp_seq' fun K12 hK12 => ?_
     refine wp_reg ?_
     obtain rfl : i = j := by omega
     refine ol_r (r_move rfl) rfl ?_
     refine ol_r (r_assign rfl) rfl ?_
     refine ol_nil (to_k0 (fun _ _ h => h) (hK12 _ _ _ _ _ ?_))
     clear hK12
     refine wp_block' ?_
     apply wp_loopM (σ := Nat) (fun s => p ≤ s ∧ s ≤ i - 1) (fun s => [(13, .int .i64 s)]) [(0, _), (1, _), (2, _), (3, _), (4, _), (10, _)] (fun s => [(5000, .row a n c (encI.enc (tab n (mvR f p s))) 3 1)]) [(5001, _), (5002, _), (5003, _), (5004, _), (5005, _), (5006, _), (5007, _), (5008, _), (5009, _), (5010, _)] (fun s => i - s) (p)
     ·try dsimp only
      exact ⟨Nat.le_refl _, by omega⟩
     ·exact (sub_cons rfl sub_nil)
     ·exact (sub_cons rfl (sub_cons rfl (sub_cons rfl (sub_cons rfl (sub_cons rfl (sub_cons rfl sub_nil))))))
     ·exact (subH_row rfl (by rw [mvR_start]) subH_nil)
     ·exact (subH_same rfl (subH_same rfl (subH_same rfl (subH_same rfl (subH_same rfl (subH_same rfl (subH_same rfl (subH_same rfl (subH_same rfl (subH_same rfl subH_nil))))))))))
     ·rintro k ⟨hk1, hk2⟩
      have hFl := tab_len n (mvR f p k)
      intro K13 hK13
      refine wp_seq' fun K14 hK14 => ?_
      refine wp_seq' fun K15 hK15 => ?_
      refine wp_reg ?_
      refine ol_r (r_move rfl) rfl ?_
      refine ol_r (r_move rfl) rfl ?_
      refine ol_r (r_sub rfl rfl (by omega)) rfl ?_
      refine ol_r (r_lss rfl rfl) rfl ?_
      refine ol_nil (to_k0 (fun _ _ h => h) (hK15 _ _ _ _ _ ?_))
      clear hK15
      refine wp_condD rfl (fun hc58 => ?_) (fun hc58 => ?_)
      ·refine wp_skip' (to_k0 (fun _ _ h => h) (hK14 _ _ _ _ _ ?_))
       clear hK14
       refine wp_seq' fun K16 hK16 => ?_
       refine wp_block' ?_
       refine wp_rega [(999, [(5001, _), (5002, _), (5003, _), (5004, _), (5005, _), (5006, _), (5007, _), (5008, _), (5009, _), (5010, _)]), (15, [(5000, _)])] (by kernel_rfl) ⟨.inr (subH_same rfl (subH_same rfl (subH_same rfl (subH_same rfl (subH_same rfl (subH_same rfl (subH_same rfl (subH_same rfl (subH_same rfl (subH_same rfl subH_nil)))))))))), ⟨.inr (subH_same rfl subH_nil), trivial⟩⟩ ?_
       refine aq_r 0 999 rfl (by kernel_rfl) (by kernel_rfl) (by kernel_rfl) (.head _) (by kernel_rfl) (by kernel_rfl) rfl (r_move rfl) ?_
       refine aq_r 1 999 rfl (by kernel_rfl) (by kernel_rfl) (by kernel_rfl) (.head _) (by kernel_rfl) (by kernel_rfl) rfl (r_move rfl) ?_
       refine aq_r 2 999 rfl (by kernel_rfl) (by kernel_rfl) (by kernel_rfl) (.head _) (by kernel_rfl) (by kernel_rfl) rfl (r_move rfl) ?_
       refine aq_r 3 999 rfl (by kernel_rfl) (by kernel_rfl) (by kernel_rfl) (.head _) (by kernel_rfl) (by kernel_rfl) rfl (r_move rfl) ?_
       refine aq_r 4 999 rfl (by kernel_rfl) (by kernel_rfl) (by kernel_rfl) (.head _) (by kernel_rfl) (by kernel_rfl) rfl (r_add rfl rfl (by omega)) ?_
       refine aq_r 5 999 rfl (by kernel_rfl) (by kernel_rfl) (by kernel_rfl) (.head _) (by kernel_rfl) (by kernel_rfl) rfl (r_move rfl) ?_
       refine aq_r 6 999 rfl (by kernel_rfl) (by kernel_rfl) (by kernel_rfl) (.head _) (by kernel_rfl) (by kernel_rfl) rfl (r_move rfl) ?_
       refine aq_r 7 999 rfl (by kernel_rfl) (by kernel_rfl) (by kernel_rfl) (.head _) (by kernel_rfl) (by kernel_rfl) rfl (r_add rfl rfl (by omega)) ?_
       refine aq_ixo 8 15 rfl (by kernel_rfl) (by kernel_rfl) (by kernel_rfl) (.tail _ (.head _)) (by kernel_rfl) (by kernel_rfl) rfl (id := 5000) encI _ rfl rfl rfl rfl sl150 (by omega) (by omega) fun x69 hx69 => ?_
       try simp only [Int.toNat_natCast] at hx69
       try simp only [Int.toNat_natCast] at hx69
       refine aq_r 9 15 rfl (by kernel_rfl) (by kernel_rfl) (by kernel_rfl) (.tail _ (.head _)) (by kernel_rfl) (by kernel_rfl) rfl (r_ldw rfl (fun w1 hb1 hs1 hB1 => show Loads _ _ _ _ (.int .i64 x69) from ld_own (id := 5000) hs1 rfl rfl ty3 hx69)) ?_
       refine aq_r 10 999 rfl (by kernel_rfl) (by kernel_rfl) (by kernel_rfl) (.head _) (by kernel_rfl) (by kernel_rfl) rfl (r_move rfl) ?_
       refine aq_r 11 999 rfl (by kernel_rfl) (by kernel_rfl) (by kernel_rfl) (.head _) (by kernel_rfl) (by kernel_rfl) rfl (r_move rfl) ?_
       refine aq_one (i := 12) (by kernel_rfl) rfl fun K17 hK17 => ?_
       refine ol_ixo (id := 5000) encI _ rfl rfl rfl rfl sl150 (by omega) rfl fun x73 hx73 => ?_
       try simp only [Int.toNat_natCast] at hx73
       try simp only [Int.toNat_natCast] at hx73
       refine ol_nil (to_k0 (fun _ _ h => h) (hK17 _ _ ⟨.inr (by repeat' first | exact subH_nil | refine subH_same rfl ?_ | (refine subH_blk rfl (by repeat' first | exact sub_nil | refine sub_cons rfl ?_) ?_)), ⟨.inr (by repeat' first | exact subH_nil | refine subH_same rfl ?_ | (refine subH_blk rfl (by repeat' first | exact sub_nil | refine sub_cons rfl ?_) ?_)), trivial⟩⟩ ?_))
       clear hK17
       refine aq_r 13 15 rfl (by kernel_rfl) (by kernel_rfl) (by kernel_rfl) (.tail _ (.head _)) (by kernel_rfl) (by kernel_rfl) rfl (r_ldw rfl (fun w1 hb1 hs1 hB1 => show Loads _ _ _ _ (.int .i64 x73) from ld_own (id := 5000) hs1 rfl rfl ty3 hx73)) ?_
       refine aq_ixo 14 15 rfl (by kernel_rfl) (by kernel_rfl) (by kernel_rfl) (.tail _ (.head _)) (by kernel_rfl) (by kernel_rfl) rfl (id := 5000) encI _ rfl rfl rfl rfl sl150 (by omega) (by omega) fun x75 hx75 => ?_
       try simp only [Int.toNat_natCast] at hx75
       try simp only [Int.toNat_natCast] at hx75
       refine aq_one (i := 15) (by kernel_rfl) rfl fun K18 hK18 => ?_
       refine ol_storeRow (id := 5000) _ _ _ rfl rfl rfl rfl sz3 (by omega) ?_
       refine ol_nil (to_k0 (fun _ _ h => h) (hK18 _ _ ⟨.inr (by repeat' first | exact subH_nil | refine subH_same rfl ?_ | (refine subH_blk rfl (by repeat' first | exact sub_nil | refine sub_cons rfl ?_) ?_)), ⟨.inl (by kernel_rfl), trivial⟩⟩ ?_))
       clear hK18
       refine aq_one (i := 16) (by kernel_rfl) rfl fun K19 hK19 => ?_
       refine ol_ixo (id := 5000) encI _ rfl rfl rfl rfl sl150 (by omega) rfl fun x76 hx76 => ?_
       try simp only [Int.toNat_natCast] at hx76
       try simp only [Int.toNat_natCast] at hx76
       refine ol_nil (to_k0 (fun _ _ h => h) (hK19 _ _ ⟨.inr (by repeat' first | exact subH_nil | refine subH_same rfl ?_ | (refine subH_blk rfl (by repeat' first | exact sub_nil | refine sub_cons rfl ?_) ?_)), ⟨.inl (by kernel_rfl), trivial⟩⟩ ?_))
       clear hK19
       refine aq_one (i := 17) (by kernel_rfl) rfl fun K20 hK20 => ?_
       refine ol_storeRow (id := 5000) _ _ _ rfl rfl rfl rfl sz3 (by omega) ?_
       refine ol_nil (to_k0 (fun _ _ h => h) (hK20 _ _ ⟨.inr (by repeat' first | exact subH_nil | refine subH_same rfl ?_ | (refine subH_blk rfl (by repeat' first | exact sub_nil | refine sub_cons rfl ?_) ?_)), ⟨.inl (by kernel_rfl), trivial⟩⟩ ?_))
       clear hK20
       refine aq_done (by kernel_rfl) ?_
       refine (to_k0 (fun _ _ h => h) (hK16 _ _ _ _ _ ?_))
       clear hK16
       refine wp_reg ?_
       refine ol_r (r_move rfl) rfl ?_
       refine ol_r (r_addT (k + 1) rfl rfl (by omega) (by omega)) rfl ?_
       refine ol_r (r_assign rfl) rfl ?_
       refine ol_nil (to_k0 (fun _ _ h => h) (hK13 (k + 1) _ _ ?_ ?_ (sub_cons rfl sub_nil) (sub_cons rfl (sub_cons rfl (sub_cons rfl (sub_cons rfl (sub_cons rfl (sub_cons rfl sub_nil)))))) (by exact (subH_row rfl (by (rw [← mvR_step (by omega), sw_row (i := k) (j := k + 1) (by omega) (by omega) ⟨_, by omega, hx69⟩ ⟨_, by omega, hx73⟩])) subH_nil)) (subH_same rfl (subH_same rfl (subH_same rfl (subH_same rfl (subH_same rfl (subH_same rfl (subH_same rfl (subH_same rfl (subH_same rfl (subH_same rfl subH_nil))))))))))))
       ·try dsimp only
        exact ⟨by omega, by omega⟩
       ·try dsimp only
        omega
      ·refine wp_exit' (to_k0 (fun _ _ h => h) (hK11 _ _ _ _ _ ?_))
       clear hK11
       refine hQ.ret rvs0 (fun _ _ h => h) fun w hb hs hB hkd => ?_
       exact ⟨_, rfl, hb, hs.sub (subH_same rfl (subH_same rfl (subH_same rfl (subH_same rfl (subH_same rfl (subH_same rfl (subH_same rfl (subH_same rfl (subH_same rfl (subH_same rfl (subH_same rfl subH_nil))))))))))), hB, hkd, by
         obtain rfl : k = i - 1 := by omega
         obtain rfl : m = p + 1 := by omega
         exact mvR_blo hw hM hi hj hlo hhi⟩
  ·refine wp_skip' (to_k0 (fun _ _ h => h) (hK1 _ _ _ _ _ ?_))
   clear hK1
   refine wp_seq' fun K21 hK21 => ?_
   refine wp_seq' fun K22 hK22 => ?_
   refine wp_reg ?_
   refine ol_r (r_move rfl) rfl ?_
   refine ol_r (r_move rfl) rfl ?_
   refine ol_r (r_sub rfl rfl (by omega)) rfl ?_
   refine ol_r (r_eql rfl rfl) rfl ?_
   refine ol_nil (to_k0 (fun _ _ h => h) (hK22 _ _ _ _ _ ?_))
   clear hK22
   refine wp_condD rfl (fun hc80 => ?_) (fun hc80 => ?_)
   ·refine wp_seq' fun K23 hK23 => ?_
    refine wp_reg ?_
    refine ol_r (r_move rfl) rfl ?_
    refine ol_r (r_assign rfl) rfl ?_
    refine ol_nil (to_k0 (fun _ _ h => h) (hK23 _ _ _ _ _ ?_))
    clear hK23
    refine wp_seq' fun K24 hK24 => ?_
    refine wp_reg ?_
    refine ol_r (r_move rfl) rfl ?_
    refine ol_r (r_assign rfl) rfl ?_
    refine ol_nil (to_k0 (fun _ _ h => h) (hK24 _ _ _ _ _ ?_))
    clear hK24
    refine wp_seq' fun K25 hK25 => ?_
    refine wp_block' ?_
    apply wp_loopM (σ := Nat × Nat) (fun s => p ≤ s.1 ∧ s.1 ≤ s.2 ∧ s.2 ≤ m ∧ (∀ x, p ≤ x → x < s.1 → ltC cf (f m) (f x) = false) ∧ (∀ x, s.2 ≤ x → x < m → ltC cf (f m) (f x) = true)) (fun s => [(14, .int .i64 s.1), (15, .int .i64 s.2)]) [(0, _), (1, _), (2, _), (3, _), (4, _)] (fun s => []) [(5000, _), (5001, _), (5002, _), (5003, _), (5004, _), (5005, _), (5006, _), (5007, _), (5008, _), (5009, _), (5010, _)] (fun s => s.2 - s.1) ((p, m))
    ·try dsimp only
     exact ⟨Nat.le_refl _, by omega, Nat.le_refl _, fun x h4 h5 => by omega, fun x h4 h5 => by omega⟩
    ·exact (sub_cons rfl (sub_cons rfl sub_nil))
    ·exact (sub_cons rfl (sub_cons rfl (sub_cons rfl (sub_cons rfl (sub_cons rfl sub_nil)))))
    ·exact subH_nil
    ·exact (subH_same rfl (subH_same rfl (subH_same rfl (subH_same rfl (subH_same rfl (subH_same rfl (subH_same rfl (subH_same rfl (subH_same rfl (subH_same rfl (subH_same rfl subH_nil)))))))))))
    ·rintro ⟨i, j⟩ ⟨hi, hij, hj, hlo, hhi⟩
     dsimp only at hi hij hj hlo hhi ⊢
     intro K26 hK26
     refine wp_seq' fun K27 hK27 => ?_
     refine wp_seq' fun K28 hK28 => ?_
     refine wp_reg ?_
     refine ol_r (r_move rfl) rfl ?_
     refine ol_r (r_move rfl) rfl ?_
     refine ol_r (r_lss rfl rfl) rfl ?_
     refine ol_nil (to_k0 (fun _ _ h => h) (hK28 _ _ _ _ _ ?_))
     clear hK28
     refine wp_condD rfl (fun hc85 => ?_) (fun hc85 => ?_)
     ·refine wp_skip' (to_k0 (fun _ _ h => h) (hK27 _ _ _ _ _ ?_))
      clear hK27
      refine wp_block' ?_
      refine wp_seq' fun K29 hK29 => ?_
      refine wp_reg ?_
      refine ol_r (r_move rfl) rfl ?_
      refine ol_r (r_move rfl) rfl ?_
      refine ol_r (r_add rfl rfl (by omega)) rfl ?_
      refine ol_r (r_conv (k2 := .u64) rfl (by kernel_rfl) (by kernel_rfl) (wrap_u64 (by omega))) rfl ?_
      refine ol_r (r_shr1 rfl rfl) rfl ?_
      refine ol_r (r_conv (k2 := .i64) rfl (by kernel_rfl) (by kernel_rfl) (IntWalk.i64_in _ (by omega))) rfl ?_
      obtain ⟨h, hh⟩ : ∃ h : Nat, ((i : Int) + (j : Int)) / 2 = h := ⟨(i + j) / 2, by omega⟩
      rw [hh]
      refine ol_r (r_assign rfl) rfl ?_
      refine ol_nil (to_k0 (fun _ _ h => h) (hK29 _ _ _ _ _ ?_))
      clear hK29
      refine wp_seq' fun K30 hK30 => ?_
      refine wp_regq (by kernel_rfl) (by kernel_rfl) ?_
      refine ql_r (r_move rfl) rfl ?_
      refine ql_r (r_move rfl) rfl ?_
      refine ql_r (r_move rfl) rfl ?_
      refine ql_ixo (id := 5000) encI _ rfl rfl rfl rfl sl150 (by omega) (by omega) rfl fun x95 hx95 => ?_
      try simp only [Int.toNat_natCast] at hx95
      try simp only [Int.toNat_natCast] at hx95
      refine ql_r (r_ldw rfl (fun w1 hb1 hs1 hB1 => show Loads _ _ _ _ (.int .i64 x95) from ld_own (id := 5000) hs1 rfl rfl ty3 hx95)) rfl ?_
      refine ql_r (r_move rfl) rfl ?_
      refine ql_r (r_move rfl) rfl ?_
      refine ql_ixo (id := 5000) encI _ rfl rfl rfl rfl sl150 (by omega) (by omega) rfl fun x99 hx99 => ?_
      try simp only [Int.toNat_natCast] at hx99
      try simp only [Int.toNat_natCast] at hx99
      refine ql_r (r_ldw rfl (fun w1 hb1 hs1 hB1 => show Loads _ _ _ _ (.int .i64 x99) from ld_own (id := 5000) hs1 rfl rfl ty3 hx99)) rfl ?_
      refine ql_call rfl rfl cb104 rfl (fun w1 hb1 hs1 hB1 => hcmp _ _ _ (by rw [← tab_eq hx95]; exact hG _ (by omega)) (by rw [← tab_eq hx99]; exact hG _ (by omega)) (hs1.sub (subH_same rfl (subH_same rfl subH_nil))) hB1) ?_
      refine ql_r (r_lss rfl rfl) rfl ?_
      refine ql_r (r_not rfl) rfl ?_
      refine ql_nil (to_k0 (fun _ _ h => h) (hK30 _ _ _ _ _ ?_))
      clear hK30
      refine wp_condN rfl (fun hc103 => ?_) (fun hc103 => ?_)
      ·refine wp_reg ?_
       refine ol_r (r_move rfl) rfl ?_
       refine ol_r (r_addT (h + 1) rfl rfl (by omega) (by omega)) rfl ?_
       refine ol_r (r_assign rfl) rfl ?_
       refine ol_nil (to_k0 (fun _ _ h => h) (hK26 ((_, _)) _ _ ?_ ?_ (sub_cons rfl (sub_cons rfl sub_nil)) (sub_cons rfl (sub_cons rfl (sub_cons rfl (sub_cons rfl (sub_cons rfl sub_nil))))) (by exact subH_nil) (subH_same rfl (subH_same rfl (subH_same rfl (subH_same rfl (subH_same rfl (subH_same rfl (subH_same rfl (subH_same rfl (subH_same rfl (subH_same rfl (subH_same rfl subH_nil)))))))))))))
       ·try dsimp only
        first
          | exact ⟨by omega, by omega, by omega, fun x x1 x2 => (by
              have hc : ltC cf (f m) (f h) = false := ltC_f (by rw [tab_eq hx95, tab_eq hx99]; exact hc103)
              by_cases hx : x = h
              · rw [hx]; exact hc
              · cases h9 : ltC cf (f m) (f x) with
                | false => rfl
                | true => have := RR.lt_right hw (hM.l x h x1 (by omega) (by omega)) h9; rw [hc] at this; cases this), hhi⟩
       ·try dsimp only
        omega
      ·refine wp_reg ?_
       refine ol_r (r_move rfl) rfl ?_
       refine ol_r (r_assign rfl) rfl ?_
       refine ol_nil (to_k0 (fun _ _ h => h) (hK26 ((_, _)) _ _ ?_ ?_ (sub_cons rfl (sub_cons rfl sub_nil)) (sub_cons rfl (sub_cons rfl (sub_cons rfl (sub_cons rfl (sub_cons rfl sub_nil))))) (by exact subH_nil) (subH_same rfl (subH_same rfl (subH_same rfl (subH_same rfl (subH_same rfl (subH_same rfl (subH_same rfl (subH_same rfl (subH_same rfl (subH_same rfl (subH_same rfl subH_nil)))))))))))))
       ·try dsimp only
        first
          | exact ⟨by omega, by omega, by omega, hlo, fun x x1 x2 => by
              have hc : ltC cf (f m) (f h) = true := ltC_t (by rw [tab_eq hx95, tab_eq hx99]; exact hc103)
              by_cases hx : x = h
              · rw [hx]; exact hc
              · exact RR.lt_right hw (hM.l h x (by omega) (by omega) x2) hc⟩
       ·try dsimp only
        omega
     ·refine wp_exit' (to_k0 (fun _ _ h => h) (hK25 _ _ _ _ _ ?_))
      clear hK25
      refine wp_seq' fun K31 hK31 => ?_
      refine wp_seq' fun K32 hK32 => ?_
      refine wp_reg ?_
      obtain rfl : i = j := by omega
      obtain rfl : q = m + 1 := by omega
      refine ol_r (r_move rfl) rfl ?_
      refine ol_r (r_assign rfl) rfl ?_
      refine ol_nil (to_k0 (fun _ _ h => h) (hK32 _ _ _ _ _ ?_))
      clear hK32
      refine wp_block' ?_
      apply wp_loopM (σ := Nat) (fun s => i ≤ s ∧ s ≤ m) (fun s => [(17, .int .i64 s)]) [(0, _), (1, _), (2, _), (3, _), (4, _), (14, _)] (fun s => [(5000, .row a n c (encI.enc (tab n (mvL f s m))) 3 1)]) [(5001, _), (5002, _), (5003, _), (5004, _), (5005, _), (5006, _), (5007, _), (5008, _), (5009, _), (5010, _)] (fun s => s) (m)
      ·try dsimp only
       exact ⟨hj, Nat.le_refl _⟩
      ·exact (sub_cons rfl sub_nil)
      ·exact (sub_cons rfl (sub_cons rfl (sub_cons rfl (sub_cons rfl (sub_cons rfl (sub_cons rfl sub_nil))))))
      ·exact (subH_row rfl (by rw [mvL_start]) subH_nil)
      ·exact (subH_same rfl (subH_same rfl (subH_same rfl (subH_same rfl (subH_same rfl (subH_same rfl (subH_same rfl (subH_same rfl (subH_same rfl (subH_same rfl subH_nil))))))))))
      ·rintro k ⟨hk1, hk2⟩
       have hFl := tab_len n (mvL f k m)
       intro K33 hK33
       refine wp_seq' fun K34 hK34 => ?_
       refine wp_seq' fun K35 hK35 => ?_
       refine wp_reg ?_
       refine ol_r (r_move rfl) rfl ?_
       refine ol_r (r_move rfl) rfl ?_
       refine ol_r (r_gtr rfl rfl) rfl ?_
       refine ol_nil (to_k0 (fun _ _ h => h) (hK35 _ _ _ _ _ ?_))
       clear hK35
       refine wp_condD rfl (fun hc110 => ?_) (fun hc110 => ?_)
       ·refine wp_skip' (to_k0 (fun _ _ h => h) (hK34 _ _ _ _ _ ?_))
        clear hK34
        refine wp_seq' fun K36 hK36 => ?_
        refine wp_block' ?_
        refine wp_rega [(999, [(5001, _), (5002, _), (5003, _), (5004, _), (5005, _), (5006, _), (5007, _), (5008, _), (5009, _), (5010, _)]), (15, [(5000, _)])] (by kernel_rfl) ⟨.inr (subH_same rfl (subH_same rfl (subH_same rfl (subH_same rfl (subH_same rfl (subH_same rfl (subH_same rfl (subH_same rfl (subH_same rfl (subH_same rfl subH_nil)))))))))), ⟨.inr (subH_same rfl subH_nil), trivial⟩⟩ ?_
        refine aq_r 0 999 rfl (by kernel_rfl) (by kernel_rfl) (by kernel_rfl) (.head _) (by kernel_rfl) (by kernel_rfl) rfl (r_move rfl) ?_
        refine aq_r 1 999 rfl (by kernel_rfl) (by kernel_rfl) (by kernel_rfl) (.head _) (by kernel_rfl) (by kernel_rfl) rfl (r_move rfl) ?_
        refine aq_r 2 999 rfl (by kernel_rfl) (by kernel_rfl) (by kernel_rfl) (.head _) (by kernel_rfl) (by kernel_rfl) rfl (r_move rfl) ?_
        refine aq_r 3 999 rfl (by kernel_rfl) (by kernel_rfl) (by kernel_rfl) (.head _) (by kernel_rfl) (by kernel_rfl) rfl (r_move rfl) ?_
        refine aq_r 4 999 rfl (by kernel_rfl) (by kernel_rfl) (by kernel_rfl) (.head _) (by kernel_rfl) (by kernel_rfl) rfl (r_sub rfl rfl (by omega)) ?_
        refine aq_r 5 999 rfl (by kernel_rfl) (by kernel_rfl) (by kernel_rfl) (.head _) (by kernel_rfl) (by kernel_rfl) rfl (r_move rfl) ?_
        refine aq_r 6 999 rfl (by kernel_rfl) (by kernel_rfl) (by kernel_rfl) (.head _) (by kernel_rfl) (by kernel_rfl) rfl (r_move rfl) ?_
        refine aq_r 7 999 rfl (by kernel_rfl) (by kernel_rfl) (by kernel_rfl) (.head _) (by kernel_rfl) (by kernel_rfl) rfl (r_sub rfl rfl (by omega)) ?_
        refine aq_ixo 8 15 rfl (by kernel_rfl) (by kernel_rfl) (by kernel_rfl) (.tail _ (.head _)) (by kernel_rfl) (by kernel_rfl) rfl (id := 5000) encI _ rfl rfl rfl rfl sl150 (by omega) (by omega) fun x121 hx121 => ?_
        try simp only [Int.toNat_natCast] at hx121
        try simp only [Int.toNat_natCast] at hx121
        refine aq_r 9 15 rfl (by kernel_rfl) (by kernel_rfl) (by kernel_rfl) (.tail _ (.head _)) (by kernel_rfl) (by kernel_rfl) rfl (r_ldw rfl (fun w1 hb1 hs1 hB1 => show Loads _ _ _ _ (.int .i64 x121) from ld_own (id := 5000) hs1 rfl rfl ty3 hx121)) ?_
        refine aq_r 10 999 rfl (by kernel_rfl) (by kernel_rfl) (by kernel_rfl) (.head _) (by kernel_rfl) (by kernel_rfl) rfl (r_move rfl) ?_
        refine aq_r 11 999 rfl (by kernel_rfl) (by kernel_rfl) (by kernel_rfl) (.head _) (by kernel_rfl) (by kernel_rfl) rfl (r_move rfl) ?_
        refine aq_one (i := 12) (by kernel_rfl) rfl fun K37 hK37 => ?_
        refine ol_ixo (id := 5000) encI _ rfl rfl rfl rfl sl150 (by omega) rfl fun x125 hx125 => ?_
        try simp only [Int.toNat_natCast] at hx125
        try simp only [Int.toNat_natCast] at hx125
        refine ol_nil (to_k0 (fun _ _ h => h) (hK37 _ _ ⟨.inr (by repeat' first | exact subH_nil | refine subH_same rfl ?_ | (refine subH_blk rfl (by repeat' first | exact sub_nil | refine sub_cons rfl ?_) ?_)), ⟨.inr (by repeat' first | exact subH_nil | refine subH_same rfl ?_ | (refine subH_blk rfl (by repeat' first | exact sub_nil | refine sub_cons rfl ?_) ?_)), trivial⟩⟩ ?_))
        clear hK37
        refine aq_r 13 15 rfl (by kernel_rfl) (by kernel_rfl) (by kernel_rfl) (.tail _ (.head _)) (by kernel_rfl) (by kernel_rfl) rfl (r_ldw rfl (fun w1 hb1 hs1 hB1 => show Loads _ _ _ _ (.int .i64 x125) from ld_own (id := 5000) hs1 rfl rfl ty3 hx125)) ?_
        refine aq_ixo 14 15 rfl (by kernel_rfl) (by kernel_rfl) (by kernel_rfl) (.tail _ (.head _)) (by kernel_rfl) (by kernel_rfl) rfl (id := 5000) encI _ rfl rfl rfl rfl sl150 (by omega) (by omega) fun x127 hx127 => ?_
        try simp only [Int.toNat_natCast] at hx127
        try simp only [Int.toNat_natCast] at hx127
        refine aq_one (i := 15) (by kernel_rfl) rfl fun K38 hK38 => ?_
        refine ol_storeRow (id := 5000) _ _ _ rfl rfl rfl rfl sz3 (by omega) ?_
        refine ol_nil (to_k0 (fun _ _ h => h) (hK38 _ _ ⟨.inr (by repeat' first | exact subH_nil | refine subH_same rfl ?_ | (refine subH_blk rfl (by repeat' first | exact sub_nil | refine sub_cons rfl ?_) ?_)), ⟨.inl (by kernel_rfl), trivial⟩⟩ ?_))
        clear hK38
        refine aq_one (i := 16) (by kernel_rfl) rfl fun K39 hK39 => ?_
        refine ol_ixo (id := 5000) encI _ rfl rfl rfl rfl sl150 (by omega) rfl fun x128 hx128 => ?_
        try simp only [Int.toNat_natCast] at hx128
        try simp only [Int.toNat_natCast] at hx128
        refine ol_nil (to_k0 (fun _ _ h => h) (hK39 _ _ ⟨.inr (by repeat' first | exact subH_nil | refine subH_same rfl ?_ | (refine subH_blk rfl (by repeat' first | exact sub_nil | refine sub_cons rfl ?_) ?_)), ⟨.inl (by kernel_rfl), trivial⟩⟩ ?_))
        clear hK39
        refine aq_one (i := 17) (by kernel_rfl) rfl fun K40 hK40 => ?_
        refine ol_storeRow (id := 5000) _ _ _ rfl rfl rfl rfl sz3 (by omega) ?_
        refine ol_nil (to_k0 (fun _ _ h => h) (hK40 _ _ ⟨.inr (by repeat' first | exact subH_nil | refine subH_same rfl ?_ | (refine subH_blk rfl (by repeat' first | exact sub_nil | refine sub_cons rfl ?_) ?_)), ⟨.inl (by kernel_rfl), trivial⟩⟩ ?_))
        clear hK40
        refine aq_done (by kernel_rfl) ?_
        refine (to_k0 (fun _ _ h => h) (hK36 _ _ _ _ _ ?_))
        clear hK36
        refine wp_reg ?_
        refine ol_r (r_move rfl) rfl ?_
        refine ol_r (r_subT (k - 1) rfl rfl (by omega) (by omega)) rfl ?_
        refine ol_r (r_assign rfl) rfl ?_
        refine ol_nil (to_k0 (fun _ _ h => h) (hK33 (k - 1) _ _ ?_ ?_ (sub_cons rfl sub_nil) (sub_cons rfl (sub_cons rfl (sub_cons rfl (sub_cons rfl (sub_cons rfl (sub_cons rfl sub_nil)))))) (by exact (subH_row rfl (by (rw [← mvL_step (by omega) (by omega), sw_row (i := k) (j := k - 1) (by omega) (by omega) ⟨_, by omega, hx121⟩ ⟨_, by omega, hx125⟩])) subH_nil)) (subH_same rfl (subH_same rfl (subH_same rfl (subH_same rfl (subH_same rfl (subH_same rfl (subH_same rfl (subH_same rfl (subH_same rfl (subH_same rfl subH_nil))))))))))))
        ·try dsimp only
         exact ⟨by omega, by omega⟩
        ·try dsimp only
         omega
       ·refine wp_exit' (to_k0 (fun _ _ h => h) (hK31 _ _ _ _ _ ?_))
        clear hK31
        refine hQ.ret rvs0 (fun _ _ h => h) fun w hb hs hB hkd => ?_
        exact ⟨_, rfl, hb, hs.sub (subH_same rfl (subH_same rfl (subH_same rfl (subH_same rfl (subH_same rfl (subH_same rfl (subH_same rfl (subH_same rfl (subH_same rfl (subH_same rfl (subH_same rfl subH_nil))))))))))), hB, hkd, by
          obtain rfl : k = i := by omega
          exact mvL_blo hw hM hi hj hlo hhi⟩
   ·refine wp_skip' (to_k0 (fun _ _ h => h) (hK21 _ _ _ _ _ ?_))
    clear hK21
    refine wp_seq' fun K41 hK41 => ?_
    refine wp_reg ?_
    refine ol_r (r_move rfl) rfl ?_
    refine ol_r (r_move rfl) rfl ?_
    refine ol_r (r_add rfl rfl (by omega)) rfl ?_
    refine ol_r (r_conv (k2 := .u64) rfl (by kernel_rfl) (by kernel_rfl) (wrap_u64 (by omega))) rfl ?_
    refine ol_r (r_shr1 rfl rfl) rfl ?_
    refine ol_r (r_conv (k2 := .i64) rfl (by kernel_rfl) (by kernel_rfl) (IntWalk.i64_in _ (by omega))) rfl ?_
    obtain ⟨mid, hmid⟩ : ∃ h : Nat, ((p : Int) + (q : Int)) / 2 = h := ⟨(p + q) / 2, by omega⟩
    rw [hmid]
    refine ol_r (r_assign rfl) rfl ?_
    refine ol_nil (to_k0 (fun _ _ h => h) (hK41 _ _ _ _ _ ?_))
    clear hK41
    refine wp_seq' fun K42 hK42 => ?_
    refine wp_reg ?_
    refine ol_r (r_move rfl) rfl ?_
    refine ol_r (r_move rfl) rfl ?_
    refine ol_r (r_addT (mid + m) rfl rfl (by omega) (by omega)) rfl ?_
    refine ol_r (r_assign rfl) rfl ?_
    refine ol_nil (to_k0 (fun _ _ h => h) (hK42 _ _ _ _ _ ?_))
    clear hK42
    refine wp_seq' fun K43 hK43 => ?_
    refine wp_reg ?_
    refine ol_r (r_assign rfl) rfl ?_
    refine ol_r (r_assign rfl) rfl ?_
    refine ol_nil (to_k0 (fun _ _ h => h) (hK43 _ _ _ _ _ ?_))
    clear hK43
    apply wp_seq_cutM (σ := Nat × Nat) (fun s => (mid < m ∧ s.1 = mid + m - q ∧ s.2 = mid) ∨ (m ≤ mid ∧ s.1 = p ∧ s.2 = m)) (fun s => [(20, .int .i64 s.1), (21, .int .i64 s.2)]) [(0, _), (1, _), (2, _), (3, _), (4, _), (18, _), (19, _)] (fun s => []) [(5000, _), (5001, _), (5002, _), (5003, _), (5004, _), (5005, _), (5006, _), (5007, _), (5008, _), (5009, _), (5010, _)]
    ·exact (sub_cons rfl (sub_cons rfl (sub_cons rfl (sub_cons rfl (sub_cons rfl (sub_cons rfl (sub_cons rfl sub_nil)))))))
    ·exact (subH_same rfl (subH_same rfl (subH_same rfl (subH_same rfl (subH_same rfl (subH_same rfl (subH_same rfl (subH_same rfl (subH_same rfl (subH_same rfl (subH_same rfl subH_nil)))))))))))
    ·intro K44 hK44
     refine wp_seq' fun K45 hK45 => ?_
     refine wp_reg ?_
     refine ol_r (r_move rfl) rfl ?_
     refine ol_r (r_move rfl) rfl ?_
     refine ol_r (r_gtr rfl rfl) rfl ?_
     refine ol_nil (to_k0 (fun _ _ h => h) (hK45 _ _ _ _ _ ?_))
     clear hK45
     refine wp_condD rfl (fun hc140 => ?_) (fun hc140 => ?_)
     ·refine wp_seq' fun K46 hK46 => ?_
      refine wp_reg ?_
      refine ol_r (r_move rfl) rfl ?_
      refine ol_r (r_move rfl) rfl ?_
      refine ol_r (r_subT (mid + m - q) rfl rfl (by omega) (by omega)) rfl ?_
      refine ol_r (r_assign rfl) rfl ?_
      refine ol_nil (to_k0 (fun _ _ h => h) (hK46 _ _ _ _ _ ?_))
      clear hK46
      refine wp_reg ?_
      refine ol_r (r_move rfl) rfl ?_
      refine ol_r (r_assign rfl) rfl ?_
      refine ol_nil (to_k0 (fun _ _ h => h) (hK44 ((_, _)) _ _ ?_ (sub_cons rfl (sub_cons rfl sub_nil)) (sub_cons rfl (sub_cons rfl (sub_cons rfl (sub_cons rfl (sub_cons rfl (sub_cons rfl (sub_cons rfl sub_nil))))))) subH_nil (subH_same rfl (subH_same rfl (subH_same rfl (subH_same rfl (subH_same rfl (subH_same rfl (subH_same rfl (subH_same rfl (subH_same rfl (subH_same rfl (subH_same rfl subH_nil)))))))))))))
      try dsimp only
      first
      | exact .inl ⟨by omega, rfl, rfl⟩
     ·refine wp_seq' fun K47 hK47 => ?_
      refine wp_reg ?_
      refine ol_r (r_move rfl) rfl ?_
      refine ol_r (r_assign rfl) rfl ?_
      refine ol_nil (to_k0 (fun _ _ h => h) (hK47 _ _ _ _ _ ?_))
      clear hK47
      refine wp_reg ?_
      refine ol_r (r_move rfl) rfl ?_
      refine ol_r (r_assign rfl) rfl ?_
      refine ol_nil (to_k0 (fun _ _ h => h) (hK44 ((_, _)) _ _ ?_ (sub_cons rfl (sub_cons rfl sub_nil)) (sub_cons rfl (sub_cons rfl (sub_cons rfl (sub_cons rfl (sub_cons rfl (sub_cons rfl (sub_cons rfl sub_nil))))))) subH_nil (subH_same rfl (subH_same rfl (subH_same rfl (subH_same rfl (subH_same rfl (subH_same rfl (subH_same rfl (subH_same rfl (subH_same rfl (subH_same rfl (subH_same rfl subH_nil)))))))))))))
      try dsimp only
      first
      | exact .inr ⟨by omega, rfl, rfl⟩
    ·rintro ⟨s0, r0⟩ h0
     dsimp only at h0 ⊢
     refine wp_seq' fun K48 hK48 => ?_
     refine wp_reg ?_
     refine ol_r (r_move rfl) rfl ?_
     refine ol_r (r_subT (mid + m - 1) rfl rfl (by omega) (by omega)) rfl ?_
     refine ol_r (r_assign rfl) rfl ?_
     refine ol_nil (to_k0 (fun _ _ h => h) (hK48 _ _ _ _ _ ?_))
     clear hK48
     refine wp_seq' fun K49 hK49 => ?_
     refine wp_block' ?_
     apply wp_loopM (σ := Nat × Nat) (fun s => s0 ≤ s.1 ∧ s.1 ≤ s.2 ∧ s.2 ≤ r0 ∧ (s0 < s.1 → ltC cf (f (mid + m - s.1)) (f (s.1 - 1)) = false) ∧ (s.2 < r0 → ltC cf (f (mid + m - 1 - s.2)) (f s.2) = true)) (fun s => [(20, .int .i64 s.1), (21, .int .i64 s.2)]) [(0, _), (1, _), (2, _), (3, _), (4, _), (18, _), (19, _), (22, _)] (fun s => []) [(5000, _), (5001, _), (5002, _), (5003, _), (5004, _), (5005, _), (5006, _), (5007, _), (5008, _), (5009, _), (5010, _)] (fun s => s.2 - s.1) ((s0, r0))
     ·try dsimp only
      exact ⟨Nat.le_refl _, by omega, Nat.le_refl _, fun h4 => by omega, fun h4 => by omega⟩
     ·exact (sub_cons rfl (sub_cons rfl sub_nil))
     ·exact (sub_cons rfl (sub_cons rfl (sub_cons rfl (sub_cons rfl (sub_cons rfl (sub_cons rfl (sub_cons rfl (sub_cons rfl sub_nil))))))))
     ·exact subH_nil
     ·exact (subH_same rfl (subH_same rfl (subH_same rfl (subH_same rfl (subH_same rfl (subH_same rfl (subH_same rfl (subH_same rfl (subH_same rfl (subH_same rfl (subH_same rfl subH_nil)))))))))))
     ·rintro ⟨u, r⟩ ⟨hi, hij, hj, hlo, hhi⟩
      dsimp only at hi hij hj hlo hhi ⊢
      intro K50 hK50
      refine wp_seq' fun K51 hK51 => ?_
      refine wp_seq' fun K52 hK52 => ?_
      refine wp_reg ?_
      refine ol_r (r_move rfl) rfl ?_
      refine ol_r (r_move rfl) rfl ?_
      refine ol_r (r_lss rfl rfl) rfl ?_
      refine ol_nil (to_k0 (fun _ _ h => h) (hK52 _ _ _ _ _ ?_))
      clear hK52
      refine wp_condD rfl (fun hc151 => ?_) (fun hc151 => ?_)
      ·refine wp_skip' (to_k0 (fun _ _ h => h) (hK51 _ _ _ _ _ ?_))
       clear hK51
       refine wp_block' ?_
       refine wp_seq' fun K53 hK53 => ?_
       refine wp_reg ?_
       refine ol_r (r_move rfl) rfl ?_
       refine ol_r (r_move rfl) rfl ?_
       refine ol_r (r_add rfl rfl (by omega)) rfl ?_
       refine ol_r (r_conv (k2 := .u64) rfl (by kernel_rfl) (by kernel_rfl) (wrap_u64 (by omega))) rfl ?_
       refine ol_r (r_shr1 rfl rfl) rfl ?_
       refine ol_r (r_conv (k2 := .i64) rfl (by kernel_rfl) (by kernel_rfl) (IntWalk.i64_in _ (by omega))) rfl ?_
       obtain ⟨h, hh⟩ : ∃ h : Nat, ((u : Int) + (r : Int)) / 2 = h := ⟨(u + r) / 2, by omega⟩
       rw [hh]
       refine ol_r (r_assign rfl) rfl ?_
       refine ol_nil (to_k0 (fun _ _ h => h) (hK53 _ _ _ _ _ ?_))
       clear hK53
       refine wp_seq' fun K54 hK54 => ?_
       refine wp_regq (by kernel_rfl) (by kernel_rfl) ?_
       refine ql_r (r_move rfl) rfl ?_
       refine ql_r (r_move rfl) rfl ?_
       refine ql_r (r_move rfl) rfl ?_
       refine ql_r (r_move rfl) rfl ?_
       refine ql_r (r_sub rfl rfl (by omega)) rfl ?_
       refine ql_ixo (id := 5000) encI _ rfl rfl rfl rfl sl150 (by omega) (by omega) rfl fun x163 hx163 => ?_
       try simp only [Int.toNat_natCast] at hx163
       try simp only [Int.toNat_natCast] at hx163
       refine ql_r (r_ldw rfl (fun w1 hb1 hs1 hB1 => show Loads _ _ _ _ (.int .i64 x163) from ld_own (id := 5000) hs1 rfl rfl ty3 hx163)) rfl ?_
       refine ql_r (r_move rfl) rfl ?_
       refine ql_r (r_move rfl) rfl ?_
       refine ql_ixo (id := 5000) encI _ rfl rfl rfl rfl sl150 (by omega) (by omega) rfl fun x167 hx167 => ?_
       try simp only [Int.toNat_natCast] at hx167
       try simp only [Int.toNat_natCast] at hx167
       refine ql_r (r_ldw rfl (fun w1 hb1 hs1 hB1 => show Loads _ _ _ _ (.int .i64 x167) from ld_own (id := 5000) hs1 rfl rfl ty3 hx167)) rfl ?_
       have hx163' := hx163
       rw [show (((mid + m - 1 : Nat) : Int) - (h : Int)).toNat = mid + m - 1 - h by omega] at hx163'
       refine ql_call rfl rfl cb104 rfl (fun w1 hb1 hs1 hB1 => hcmp _ _ _ (by rw [← tab_eq hx163]; exact hG _ (by omega)) (by rw [← tab_eq hx167]; exact hG _ (by omega)) (hs1.sub (subH_same rfl (subH_same rfl subH_nil))) hB1) ?_
       refine ql_r (r_lss rfl rfl) rfl ?_
       refine ql_r (r_not rfl) rfl ?_
       refine ql_nil (to_k0 (fun _ _ h => h) (hK54 _ _ _ _ _ ?_))
       clear hK54
       refine wp_condN rfl (fun hc171 => ?_) (fun hc171 => ?_)
       ·refine wp_reg ?_
        refine ol_r (r_move rfl) rfl ?_
        refine ol_r (r_addT (h + 1) rfl rfl (by omega) (by omega)) rfl ?_
        refine ol_r (r_assign rfl) rfl ?_
        refine ol_nil (to_k0 (fun _ _ h => h) (hK50 ((_, _)) _ _ ?_ ?_ (sub_cons rfl (sub_cons rfl sub_nil)) (sub_cons rfl (sub_cons rfl (sub_cons rfl (sub_cons rfl (sub_cons rfl (sub_cons rfl (sub_cons rfl (sub_cons rfl sub_nil)))))))) (by exact subH_nil) (subH_same rfl (subH_same rfl (subH_same rfl (subH_same rfl (subH_same rfl (subH_same rfl (subH_same rfl (subH_same rfl (subH_same rfl (subH_same rfl (subH_same rfl subH_nil)))))))))))))
        ·try dsimp only
         first
           | exact ⟨by omega, by omega, by omega, fun _ => by
               rw [show mid + m - (h + 1) = mid + m - 1 - h by omega, Nat.add_sub_cancel]
               refine ltC_f ?_
               rw [tab_eq hx163', tab_eq hx167]; exact hc171, hhi⟩
        ·try dsimp only
         omega
       ·refine wp_reg ?_
        refine ol_r (r_move rfl) rfl ?_
        refine ol_r (r_assign rfl) rfl ?_
        refine ol_nil (to_k0 (fun _ _ h => h) (hK50 ((_, _)) _ _ ?_ ?_ (sub_cons rfl (sub_cons rfl sub_nil)) (sub_cons rfl (sub_cons rfl (sub_cons rfl (sub_cons rfl (sub_cons rfl (sub_cons rfl (sub_cons rfl (sub_cons rfl sub_nil)))))))) (by exact subH_nil) (subH_same rfl (subH_same rfl (subH_same rfl (subH_same rfl (subH_same rfl (subH_same rfl (subH_same rfl (subH_same rfl (subH_same rfl (subH_same rfl (subH_same rfl subH_nil)))))))))))))
        ·try dsimp only
         first
           | exact ⟨by omega, by omega, by omega, hlo, fun _ => by
               refine ltC_t ?_
               rw [tab_eq hx163', tab_eq hx167]; exact hc171⟩
        ·try dsimp only
         omega
      ·refine wp_exit' (to_k0 (fun _ _ h => h) (hK49 _ _ _ _ _ ?_))
       clear hK49
       refine wp_seq' fun K55 hK55 => ?_
       refine wp_reg ?_
       refine ol_r (r_move rfl) rfl ?_
       refine ol_r (r_move rfl) rfl ?_
       refine ol_r (r_subT (mid + m - u) rfl rfl (by omega) (by omega)) rfl ?_
       obtain rfl : u = r := by omega
       have hT : Turn (ltC cf) f p m q mid u (mid + m - u) := by
         refine ⟨by omega, ⟨by omega, by omega, by omega, by omega⟩, fun t1 t2 => ?_, fun t1 t2 => ?_⟩
         · exact hlo (by omega)
         · rw [show mid + m - u - 1 = mid + m - 1 - u by omega]; exact hhi (by omega)
       have hP := turn_parts hw hM hT (by omega)
       refine ol_r (r_assign rfl) rfl ?_
       refine ol_nil (to_k0 (fun _ _ h => h) (hK55 _ _ _ _ _ ?_))
       clear hK55
       apply wp_seq_cutM (σ := Nat → Int) (fun s => s = rotF f u m (mid + m - u)) (fun s => []) [(0, _), (1, _), (3, _), (4, _), (18, _), (20, _), (24, _)] (fun s => [(5000, .row a n c (encI.enc (tab n s)) 3 1)]) [(5001, _), (5002, _), (5003, _), (5004, _), (5005, _), (5006, _), (5007, _), (5008, _), (5009, _), (5010, _)]
       ·exact (sub_cons rfl (sub_cons rfl (sub_cons rfl (sub_cons rfl (sub_cons rfl (sub_cons rfl (sub_cons rfl sub_nil)))))))
       ·exact (subH_same rfl (subH_same rfl (subH_same rfl (subH_same rfl (subH_same rfl (subH_same rfl (subH_same rfl (subH_same rfl (subH_same rfl (subH_same rfl subH_nil))))))))))
       ·intro K56 hK56
        refine wp_seq' fun K57 hK57 => ?_
        refine wp_reg ?_
        refine ol_r (r_move rfl) rfl ?_
        refine ol_r (r_move rfl) rfl ?_
        refine ol_r (r_lss rfl rfl) rfl ?_
        refine ol_r (r_move rfl) rfl ?_
        refine ol_split (d := 181) rfl (fun hs181 => ?_) (fun hs181 => ?_)
        ·have phs181 := hs181; try simp only [decide_eq_true_eq, decide_eq_false_iff_not, Bool.not_eq_true', Bool.not_eq_false', Bool.not_true, Bool.not_false] at phs181
         refine ol_g rfl rfl hs181 ?_
         refine ol_r (r_move rfl) rfl ?_
         refine ol_g rfl rfl hs181 ?_
         refine ol_r (r_move rfl) rfl ?_
         refine ol_g rfl rfl hs181 ?_
         refine ol_r (r_lss rfl rfl) rfl ?_
         refine ol_r (r_pickT rfl hs181 rfl) rfl ?_
         refine ol_nil (to_k0 (fun _ _ h => h) (hK57 _ _ _ _ _ ?_))
         clear hK57
         refine wp_condD rfl (fun hc185 => ?_) (fun hc185 => ?_)
         ·refine wp_reg ?_
          refine ol_r (r_move rfl) rfl ?_
          refine ol_r (r_move rfl) rfl ?_
          refine ol_r (r_move rfl) rfl ?_
          refine ol_r (r_move rfl) rfl ?_
          refine ol_r (r_move rfl) rfl ?_
          refine ol_call rfl rfl cb156 rfl (fun w1 hb1 hs1 hB1 => ?_)
          refine Calls.mono (rotate_w cf Good B cb a n c e1 e2 e3 e4 e5 e6 e7 e8 e9 e10 f u m (mid + m - u) _ hB1 hn (by omega) (by omega) (by omega) (hs1.sub (subH_same rfl (subH_same rfl (subH_same rfl (subH_same rfl (subH_same rfl (subH_same rfl (subH_same rfl (subH_same rfl (subH_same rfl (subH_same rfl (subH_same rfl subH_nil))))))))))))) ?_
          rintro e w2 ⟨g, rfl, hb2, hs2, hB2, hk2, hg⟩
          refine After.sat rfl hb1 hb2 hs2 hB2 (hk2.imp fun _ h => h.elim) ?_
          clear hk2 hs2 hb2 hB2 hB1 hs1 hb1 w2 w1
          refine ol_nil (to_k0 (fun _ _ h => h) (hK56 (_) _ _ ?_ sub_nil (sub_cons rfl (sub_cons rfl (sub_cons rfl (sub_cons rfl (sub_cons rfl (sub_cons rfl (sub_cons rfl sub_nil))))))) (subH_row rfl (by rfl) subH_nil) (subH_same rfl (subH_same rfl (subH_same rfl (subH_same rfl (subH_same rfl (subH_same rfl (subH_same rfl (subH_same rfl (subH_same rfl (subH_same rfl subH_nil))))))))))))
          try dsimp only
          first
          | exact hg
         ·refine wp_skip' (to_k0 (fun _ _ h => h) (hK56 (_) _ _ ?_ sub_nil (sub_cons rfl (sub_cons rfl (sub_cons rfl (sub_cons rfl (sub_cons rfl (sub_cons rfl (sub_cons rfl sub_nil))))))) (subH_row rfl (by rfl) subH_nil) (subH_same rfl (subH_same rfl (subH_same rfl (subH_same rfl (subH_same rfl (subH_same rfl (subH_same rfl (subH_same rfl (subH_same rfl (subH_same rfl subH_nil))))))))))))
          try dsimp only
          first
          | (rcases Nat.lt_or_ge u m with h9 | h9
             · have h8 : mid + m - u = m := by omega
               rw [h8, rotF_id2]
             · have h8 : u = m := by omega
               rw [h8, show mid + m - m = mid by omega, rotF_id1])
        ·have phs181 := hs181; try simp only [decide_eq_true_eq, decide_eq_false_iff_not, Bool.not_eq_true', Bool.not_eq_false', Bool.not_true, Bool.not_false] at phs181
         refine ol_s rfl rfl hs181 rfl ?_
         refine ol_s rfl rfl hs181 rfl ?_
         refine ol_s rfl rfl hs181 rfl ?_
         refine ol_r (r_pickF rfl hs181 rfl) rfl ?_
         refine ol_nil (to_k0 (fun _ _ h => h) (hK57 _ _ _ _ _ ?_))
         clear hK57
         refine wp_condF rfl ?_
         refine wp_skip' (to_k0 (fun _ _ h => h) (hK56 (_) _ _ ?_ sub_nil (sub_cons rfl (sub_cons rfl (sub_cons rfl (sub_cons rfl (sub_cons rfl (sub_cons rfl (sub_cons rfl sub_nil))))))) (subH_row rfl (by rfl) subH_nil) (subH_same rfl (subH_same rfl (subH_same rfl (subH_same rfl (subH_same rfl (subH_same rfl (subH_same rfl (subH_same rfl (subH_same rfl (subH_same rfl subH_nil))))))))))))
         try dsimp only
         first
         | (rcases Nat.lt_or_ge u m with h9 | h9
            · have h8 : mid + m - u = m := by omega
              rw [h8, rotF_id2]
            · have h8 : u = m := by omega
              rw [h8, show mid + m - m = mid by omega, rotF_id1])
       ·rintro F1 hF1
        have hF1l := tab_len n F1
        have hR0 : SaS f (rotF f u m (mid + m - u)) 0 n := (SaS.rot (f := f) hT.rg.2.1 hT.rg.2.2.1).widen (Nat.zero_le _) (by omega) (by omega) (fun x hx => by simp only [rotF]; rw [if_neg (by omega), if_neg (by omega)])
        rw [← hF1] at hP hR0
        have hG1 := good_of hG hR0
        apply wp_seq_cutM (σ := Nat → Int) (fun s => Blo (ltC cf) F1 s p mid) (fun s => []) [(0, _), (3, _), (4, _), (18, _), (24, _)] (fun s => [(5000, .row a n c (encI.enc (tab n s)) 3 1)]) [(5001, _), (5002, _), (5003, _), (5004, _), (5005, _), (5006, _), (5007, _), (5008, _), (5009, _), (5010, _)]
        ·exact (sub_cons rfl (sub_cons rfl (sub_cons rfl (sub_cons rfl (sub_cons rfl sub_nil)))))
        ·exact (subH_same rfl (subH_same rfl (subH_same rfl (subH_same rfl (subH_same rfl (subH_same rfl (subH_same rfl (subH_same rfl (subH_same rfl (subH_same rfl subH_nil))))))))))
        ·intro K58 hK58
         refine wp_seq' fun K59 hK59 => ?_
         refine wp_reg ?_
         refine ol_r (r_move rfl) rfl ?_
         refine ol_r (r_move rfl) rfl ?_
         refine ol_r (r_lss rfl rfl) rfl ?_
         refine ol_r (r_move rfl) rfl ?_
         refine ol_split (d := 195) rfl (fun hs195 => ?_) (fun hs195 => ?_)
         ·have phs195 := hs195; try simp only [decide_eq_true_eq, decide_eq_false_iff_not, Bool.not_eq_true', Bool.not_eq_false', Bool.not_true, Bool.not_false] at phs195
          refine ol_g rfl rfl hs195 ?_
          refine ol_r (r_move rfl) rfl ?_
          refine ol_g rfl rfl hs195 ?_
          refine ol_r (r_move rfl) rfl ?_
          refine ol_g rfl rfl hs195 ?_
          refine ol_r (r_lss rfl rfl) rfl ?_
          refine ol_r (r_pickT rfl hs195 rfl) rfl ?_
          refine ol_nil (to_k0 (fun _ _ h => h) (hK59 _ _ _ _ _ ?_))
          clear hK59
          refine wp_condD rfl (fun hc199 => ?_) (fun hc199 => ?_)
          ·refine wp_reg ?_
           refine ol_r (r_move rfl) rfl ?_
           refine ol_r (r_move rfl) rfl ?_
           refine ol_r (r_move rfl) rfl ?_
           refine ol_r (r_move rfl) rfl ?_
           refine ol_r (r_move rfl) rfl ?_
           refine ol_call rfl rfl cb146 rfl (fun w1 hb1 hs1 hB1 => ?_)
           refine Calls.mono (ih p u mid F1 _ (by omega) hB1 (by omega) (by omega) (by omega) hG1 hP.1 (hs1.sub (subH_same rfl (subH_same rfl (subH_same rfl (subH_same rfl (subH_same rfl (subH_same rfl (subH_same rfl (subH_same rfl (subH_same rfl (subH_same rfl (subH_same rfl subH_nil))))))))))))) ?_
           rintro e w2 ⟨g, rfl, hb2, hs2, hB2, hk2, hg⟩
           refine After.sat rfl hb1 hb2 hs2 hB2 (hk2.imp fun _ h => h.elim) ?_
           clear hk2 hs2 hb2 hB2 hB1 hs1 hb1 w2 w1
           refine ol_nil (to_k0 (fun _ _ h => h) (hK58 (_) _ _ ?_ sub_nil (sub_cons rfl (sub_cons rfl (sub_cons rfl (sub_cons rfl (sub_cons rfl sub_nil))))) (subH_row rfl (by rfl) subH_nil) (subH_same rfl (subH_same rfl (subH_same rfl (subH_same rfl (subH_same rfl (subH_same rfl (subH_same rfl (subH_same rfl (subH_same rfl (subH_same rfl subH_nil))))))))))))
           try dsimp only
           first
           | exact hg
          ·refine wp_skip' (to_k0 (fun _ _ h => h) (hK58 (_) _ _ ?_ sub_nil (sub_cons rfl (sub_cons rfl (sub_cons rfl (sub_cons rfl (sub_cons rfl sub_nil))))) (subH_row rfl (by rfl) subH_nil) (subH_same rfl (subH_same rfl (subH_same rfl (subH_same rfl (subH_same rfl (subH_same rfl (subH_same rfl (subH_same rfl (subH_same rfl (subH_same rfl subH_nil))))))))))))
           try dsimp only
           first
           | (refine Blo.one ?_
              rcases Nat.lt_or_ge p u with h9 | h9
              · have h8 : u = mid := by omega
                have h7 := hP.1.l
                rw [h8] at h7; exact h7
              · have h8 : u = p := by omega
                have h7 := hP.1.r
                rw [h8] at h7; exact h7)
         ·have phs195 := hs195; try simp only [decide_eq_true_eq, decide_eq_false_iff_not, Bool.not_eq_true', Bool.not_eq_false', Bool.not_true, Bool.not_false] at phs195
          refine ol_s rfl rfl hs195 rfl ?_
          refine ol_s rfl rfl hs195 rfl ?_
          refine ol_s rfl rfl hs195 rfl ?_
          refine ol_r (r_pickF rfl hs195 rfl) rfl ?_
          refine ol_nil (to_k0 (fun _ _ h => h) (hK59 _ _ _ _ _ ?_))
          clear hK59
          refine wp_condF rfl ?_
          refine wp_skip' (to_k0 (fun _ _ h => h) (hK58 (_) _ _ ?_ sub_nil (sub_cons rfl (sub_cons rfl (sub_cons rfl (sub_cons rfl (sub_cons rfl sub_nil))))) (subH_row rfl (by rfl) subH_nil) (subH_same rfl (subH_same rfl (subH_same rfl (subH_same rfl (subH_same rfl (subH_same rfl (subH_same rfl (subH_same rfl (subH_same rfl (subH_same rfl subH_nil))))))))))))
          try dsimp only
          first
          | (refine Blo.one ?_
             rcases Nat.lt_or_ge p u with h9 | h9
             · have h8 : u = mid := by omega
               have h7 := hP.1.l
               rw [h8] at h7; exact h7
             · have h8 : u = p := by omega
               have h7 := hP.1.r
               rw [h8] at h7; exact h7)
        ·rintro F2 hF2
         have hF2l := tab_len n F2
         have hG2 := good_of hG1 (hF2.all (by omega) (by omega))
         have hM2 : MrgI (ltC cf) F2 mid (mid + m - u) q := by
           refine ⟨fun x y x1 x2 x3 => ?_, fun x y x1 x2 x3 => ?_, fun x y x1 x2 x3 x4 => ?_⟩
           · rw [hF2.out x (by omega), hF2.out y (by omega)]; exact hP.2.1.l x y x1 x2 x3
           · rw [hF2.out x (by omega), hF2.out y (by omega)]; exact hP.2.1.r x y x1 x2 x3
           · rw [hF2.out x (by omega), hF2.out y (by omega)]; exact hP.2.1.nu x y x1 x2 x3 x4
         refine wp_seq' fun K60 hK60 => ?_
         refine wp_reg ?_
         refine ol_r (r_move rfl) rfl ?_
         refine ol_r (r_move rfl) rfl ?_
         refine ol_r (r_lss rfl rfl) rfl ?_
         refine ol_r (r_move rfl) rfl ?_
         refine ol_split (d := 209) rfl (fun hs209 => ?_) (fun hs209 => ?_)
         ·have phs209 := hs209; try simp only [decide_eq_true_eq, decide_eq_false_iff_not, Bool.not_eq_true', Bool.not_eq_false', Bool.not_true, Bool.not_false] at phs209
          refine ol_g rfl rfl hs209 ?_
          refine ol_r (r_move rfl) rfl ?_
          refine ol_g rfl rfl hs209 ?_
          refine ol_r (r_move rfl) rfl ?_
          refine ol_g rfl rfl hs209 ?_
          refine ol_r (r_lss rfl rfl) rfl ?_
          refine ol_r (r_pickT rfl hs209 rfl) rfl ?_
          refine ol_nil (to_k0 (fun _ _ h => h) (hK60 _ _ _ _ _ ?_))
          clear hK60
          refine wp_condD rfl (fun hc213 => ?_) (fun hc213 => ?_)
          ·refine wp_reg ?_
           refine ol_r (r_move rfl) rfl ?_
           refine ol_r (r_move rfl) rfl ?_
           refine ol_r (r_move rfl) rfl ?_
           refine ol_r (r_move rfl) rfl ?_
           refine ol_r (r_move rfl) rfl ?_
           refine ol_call rfl rfl cb146 rfl (fun w1 hb1 hs1 hB1 => ?_)
           refine Calls.mono (ih mid (mid + m - u) q F2 _ (by omega) hB1 (by omega) (by omega) (by omega) hG2 hM2 (hs1.sub (subH_same rfl (subH_same rfl (subH_same rfl (subH_same rfl (subH_same rfl (subH_same rfl (subH_same rfl (subH_same rfl (subH_same rfl (subH_same rfl (subH_same rfl subH_nil))))))))))))) ?_
           rintro e w2 ⟨g, rfl, hb2, hs2, hB2, hk2, hg⟩
           refine After.sat rfl hb1 hb2 hs2 hB2 (hk2.imp fun _ h => h.elim) ?_
           clear hk2 hs2 hb2 hB2 hB1 hs1 hb1 w2 w1
           refine ol_nil (hQ.fall rvs0 (fun _ _ h => h) fun w hb hs hB hkd => ?_)
           first
             | exact ⟨_, rfl, hb, hs.sub (subH_same rfl (subH_same rfl (subH_same rfl (subH_same rfl (subH_same rfl (subH_same rfl (subH_same rfl (subH_same rfl (subH_same rfl (subH_same rfl (subH_same rfl subH_nil))))))))))), hB, hkd, turn_blo hw hM hT (by omega) (hF1 ▸ hF2) hg⟩
          ·refine wp_skip' (hQ.fall rvs0 (fun _ _ h => h) fun w hb hs hB hkd => ?_)
           first
             | (refine ⟨_, rfl, hb, hs.sub (subH_same rfl (subH_same rfl (subH_same rfl (subH_same rfl (subH_same rfl (subH_same rfl (subH_same rfl (subH_same rfl (subH_same rfl (subH_same rfl (subH_same rfl subH_nil))))))))))), hB, hkd, turn_blo hw hM hT (by omega) (hF1 ▸ hF2) (Blo.one ?_)⟩
                rcases Nat.lt_or_ge mid (mid + m - u) with h9 | h9
                · have h8 : mid + m - u = q := by omega
                  have h7 := hM2.l
                  rw [h8] at h7; exact h7
                · have h8 : mid + m - u = mid := by omega
                  have h7 := hM2.r
                  rw [h8] at h7; exact h7)
         ·have phs209 := hs209; try simp only [decide_eq_true_eq, decide_eq_false_iff_not, Bool.not_eq_true', Bool.not_eq_false', Bool.not_true, Bool.not_false] at phs209
          refine ol_s rfl rfl hs209 rfl ?_
          refine ol_s rfl rfl hs209 rfl ?_
          refine ol_s rfl rfl hs209 rfl ?_
          refine ol_r (r_pickF rfl hs209 rfl) rfl ?_
          refine ol_nil (to_k0 (fun _ _ h => h) (hK60 _ _ _ _ _ ?_))
          clear hK60
          refine wp_condF rfl ?_
          refine wp_skip' (hQ.fall rvs0 (fun _ _ h => h) fun w hb hs hB hkd => ?_)
          first
            | (refine ⟨_, rfl, hb, hs.sub (subH_same rfl (subH_same rfl (subH_same rfl (subH_same rfl (subH_same rfl (subH_same rfl (subH_same rfl (subH_same rfl (subH_same rfl (subH_same rfl (subH_same rfl subH_nil))))))))))), hB, hkd, turn_blo hw hM hT (by omega) (hF1 ▸ hF2) (Blo.one ?_)⟩
               rcases Nat.lt_or_ge mid (mid + m - u) with h9 | h9
               · have h8 : mid + m - u = q := by omega
                 have h7 := hM2.l
                 rw [h8] at h7; exact h7
               · have h8 : mid + m - u = mid := by omega
                 have h7 := hM2.r
                 rw [h8] at h7; exact h7)

theorem dvd_next {s p A : Nat} (hs : 0 < s) (h1 : s ∣ p) (h2 : s ∣ A) (h3 : p < A) : p + s ≤ A := by
  obtain ⟨x, rfl⟩ := h1
  obtain ⟨y, rfl⟩ := h2
  have h4 : x < y := Nat.lt_of_mul_lt_mul_left h3
  have h5 := Nat.mul_le_mul_left s (show x + 1 ≤ y from h4)
  rw [Nat.mul_add, Nat.mul_one] at h5
  exact h5
/-- Blocks of size s up to A are sorted, each with what it held; behind A nothing turned. -/
structure Hlf (lt : Int → Int → Bool) (f F0 F : Nat → Int) (s n A : Nat) : Prop where
  dv : s ∣ A
  ok : ∀ p, s ∣ p → p < A → SoR lt F p (p + s) ∧ SaS f F p (p + s)
  un : ∀ x, A ≤ x → F x = F0 x
theorem Hlf.zero {lt : Int → Int → Bool} {f F0 : Nat → Int} {s n : Nat} : Hlf lt f F0 F0 s n 0 := ⟨Nat.dvd_zero _, fun p _ h => by omega, fun _ _ => rfl⟩
theorem Blo.cong {lt : Int → Int → Bool} {f f' g : Nat → Int} {a b : Nat} (h : Blo lt f g a b) (he : ∀ x, a ≤ x → x < b → f x = f' x) : SoR lt g a b ∧ SaS f' g a b :=
  ⟨h.so, fun x p q => by obtain ⟨y, y1, y2, y3⟩ := h.sa.1 x p q; exact ⟨y, y1, y2, by rw [← he x p q]; exact y3⟩, fun x p q => by obtain ⟨y, y1, y2, y3⟩ := h.sa.2 x p q; exact ⟨y, y1, y2, by rw [← he y y1 y2]; exact y3⟩⟩
theorem Hlf.next {lt : Int → Int → Bool} {f F0 F G : Nat → Int} {s n A : Nat} (hs : 0 < s) (h : Hlf lt f F0 F s n A) (ho : ∀ x, x < A ∨ A + s ≤ x → G x = F x) (hG : SoR lt G A (A + s) ∧ SaS f G A (A + s)) : Hlf lt f F0 G s n (A + s) := by
  refine ⟨Nat.dvd_add h.dv (Nat.dvd_refl _), fun p p1 p2 => ?_, fun x hx => by rw [ho x (by omega)]; exact h.un x (by omega)⟩
  by_cases hp : p < A
  · have h2 := dvd_next hs p1 h.dv hp
    obtain ⟨h3, h4⟩ := h.ok p p1 hp
    refine ⟨fun x y x1 x2 x3 => by rw [ho x (by omega), ho y (by omega)]; exact h3 x y x1 x2 x3, fun x x1 x2 => ?_, fun x x1 x2 => ?_⟩
    · obtain ⟨y, y1, y2, y3⟩ := h4.1 x x1 x2; exact ⟨y, y1, y2, by rw [ho y (by omega)]; exact y3⟩
    · obtain ⟨y, y1, y2, y3⟩ := h4.2 x x1 x2; exact ⟨y, y1, y2, by rw [ho x (by omega)]; exact y3⟩
  · have h5 : p = A := by
      obtain ⟨x, hx⟩ := p1
      obtain ⟨y, hy⟩ := h.dv
      rw [hx, hy] at hp p2 ⊢
      have h6 : y ≤ x := by
        apply Decidable.byContradiction; intro h7
        exact hp ((Nat.mul_lt_mul_left hs).2 (by omega))
      have h8 : x < y + 1 := by
        apply Decidable.byContradiction; intro h7
        have := Nat.mul_le_mul_left s (show y + 1 ≤ x by omega)
        rw [Nat.mul_add, Nat.mul_one] at this
        omega
      rw [show x = y by omega]
    subst h5; exact hG
/-- All blocks. -/
theorem Hlf.last {lt : Int → Int → Bool} {f F0 F G : Nat → Int} {s n A : Nat} (hs : 0 < s) (h : Hlf lt f F0 F s n A) (hA : A ≤ n) (hn : n < A + s) (ho : ∀ x, x < A ∨ n ≤ x → G x = F x) (hG : SoR lt G A n ∧ SaS f G A n) : Blks lt f G s n ∧ SaS f G 0 n := by
  have key : ∀ p, s ∣ p → p < n → SoR lt G p (min (p + s) n) ∧ SaS f G p (min (p + s) n) := fun p p1 p2 => by
    by_cases hp : p < A
    · have h2 := dvd_next hs p1 h.dv hp
      obtain ⟨h3, h4⟩ := h.ok p p1 hp
      rw [Nat.min_eq_left (by omega)]
      refine ⟨fun x y x1 x2 x3 => by rw [ho x (by omega), ho y (by omega)]; exact h3 x y x1 x2 x3, fun x x1 x2 => ?_, fun x x1 x2 => ?_⟩
      · obtain ⟨y, y1, y2, y3⟩ := h4.1 x x1 x2; exact ⟨y, y1, y2, by rw [ho y (by omega)]; exact y3⟩
      · obtain ⟨y, y1, y2, y3⟩ := h4.2 x x1 x2; exact ⟨y, y1, y2, by rw [ho x (by omega)]; exact y3⟩
    · have h5 : p = A := by
        apply Decidable.byContradiction; intro h7
        have := dvd_next hs h.dv p1 (by omega)
        omega
      subst h5
      rw [Nat.min_eq_right (by omega)]; exact hG
  refine ⟨key, ?_⟩
  constructor
  · intro x _ hx
    obtain ⟨q, hq⟩ : ∃ q, q = x / s * s := ⟨_, rfl⟩
    have h1 : s ∣ q := ⟨x / s, by rw [hq, Nat.mul_comm]⟩
    have h2 := Nat.div_add_mod' x s
    have h3 := Nat.mod_lt x hs
    obtain ⟨_, h4⟩ := key q h1 (by omega)
    obtain ⟨y, y1, y2, y3⟩ := h4.1 x (by omega) (by omega)
    exact ⟨y, Nat.zero_le _, by omega, y3⟩
  · intro x _ hx
    obtain ⟨q, hq⟩ : ∃ q, q = x / s * s := ⟨_, rfl⟩
    have h1 : s ∣ q := ⟨x / s, by rw [hq, Nat.mul_comm]⟩
    have h2 := Nat.div_add_mod' x s
    have h3 := Nat.mod_lt x hs
    obtain ⟨_, h4⟩ := key q h1 (by omega)
    obtain ⟨y, y1, y2, y3⟩ := h4.2 x (by omega) (by omega)
    exact ⟨y, Nat.zero_le _, by omega, y3⟩
theorem Blks.mrg {lt : Int → Int → Bool} {f F0 F : Nat → Int} {s n p q : Nat} (hu : ∀ x y, x < y → y < n → f x < f y) (hs : 0 < s) (h : Blks lt f F0 s n) (hp : s ∣ p) (hm : p + s < q) (hqn : q ≤ n) (hx : q = p + s + s ∨ (q = n ∧ n ≤ p + s + s)) (he : ∀ x, p ≤ x → F x = F0 x) : MrgI lt F p (p + s) q ∧ SaS f F p q := by
  obtain ⟨a1, a2⟩ := h p hp (by omega)
  obtain ⟨b1, b2⟩ := h (p + s) (Nat.dvd_add hp (Nat.dvd_refl _)) (by omega)
  rw [Nat.min_eq_left (by omega)] at a1 a2
  rw [show min (p + s + s) n = q by omega] at b1 b2
  have a3 : SaS f F p (p + s) := ⟨fun x x1 x2 => by obtain ⟨y, y1, y2, y3⟩ := a2.1 x x1 x2; exact ⟨y, y1, y2, by rw [he y (by omega)]; exact y3⟩, fun x x1 x2 => by obtain ⟨y, y1, y2, y3⟩ := a2.2 x x1 x2; exact ⟨y, y1, y2, by rw [he x (by omega)]; exact y3⟩⟩
  have b3 : SaS f F (p + s) q := ⟨fun x x1 x2 => by obtain ⟨y, y1, y2, y3⟩ := b2.1 x x1 x2; exact ⟨y, y1, y2, by rw [he y (by omega)]; exact y3⟩, fun x x1 x2 => by obtain ⟨y, y1, y2, y3⟩ := b2.2 x x1 x2; exact ⟨y, y1, y2, by rw [he x (by omega)]; exact y3⟩⟩
  refine ⟨⟨fun x y x1 x2 x3 => by rw [he x (by omega), he y (by omega)]; exact a1 x y x1 x2 x3, fun x y x1 x2 x3 => by rw [he x (by omega), he y (by omega)]; exact b1 x y x1 x2 x3, fun x y x1 x2 x3 x4 => ?_⟩, SaS.join a3 b3 (by omega) (by omega)⟩
  obtain ⟨x', x1', x2', x3'⟩ := a3.2 x x1 x2
  obtain ⟨y', y1', y2', y3'⟩ := b3.2 y x3 x4
  rw [x3', y3']
  exact hu _ _ (by omega) (by omega)
theorem Blks.rest {lt : Int → Int → Bool} {f F0 F : Nat → Int} {s n p : Nat} (h : Blks lt f F0 s n) (hp : s ∣ p) (hpn : p ≤ n) (hn : n ≤ p + s) (he : ∀ x, p ≤ x → F x = F0 x) : SoR lt F p n ∧ SaS f F p n := by
  by_cases h0 : p = n
  · subst h0; exact ⟨fun x y h1 h2 h3 => by omega, fun x h1 h2 => by omega, fun x h1 h2 => by omega⟩
  · obtain ⟨a1, a2⟩ := h p hp (by omega)
    rw [Nat.min_eq_right hn] at a1 a2
    exact ⟨fun x y x1 x2 x3 => by rw [he x (by omega), he y (by omega)]; exact a1 x y x1 x2 x3, fun x x1 x2 => by obtain ⟨y, y1, y2, y3⟩ := a2.1 x x1 x2; exact ⟨y, y1, y2, by rw [he y (by omega)]; exact y3⟩, fun x x1 x2 => by obtain ⟨y, y1, y2, y3⟩ := a2.2 x x1 x2; exact ⟨y, y1, y2, by rw [he x (by omega)]; exact y3⟩⟩
theorem Blks.whole {lt : Int → Int → Bool} {f F : Nat → Int} {s n : Nat} (h : Blks lt f F s n) (hs : n ≤ s) : SoR lt F 0 n := by
  by_cases h0 : n = 0
  · subst h0; exact fun x y h1 h2 h3 => by omega
  · obtain ⟨a1, _⟩ := h 0 (Nat.dvd_zero _) (by omega)
    rw [show min (0 + s) n = n by omega] at a1
    exact a1

theorem stable_w (cf : Int → Int → Int) (Good : Int → Prop) (B : Nat) (cb : Nat) (a : Option Addr) (n c : Nat) (e1 e2 e3 e4 e5 e6 e7 e8 e9 e10 : Ent) (hw : Swo (ltC cf)) (hn : n ≤ 1000000) (hcmp : ∀ (w1 : World) (x y : Int), Good x → Good y → Sat B w1 [(5001, e1), (5002, e2)] → B ≤ w1.heap.size → Calls Try.prog 104 #[.int .i64 x, .int .i64 y, .pointer (some ⟨cb, 0, none⟩)] w1 fun e w' => e = .returned (.int .i64 (cf x y)) ∧ Below w1.heap.size w1 w') (f : Nat → Int) (w : World) (hB : B ≤ w.heap.size) (hu : ∀ x y, x < y → y < n → f x < f y) (hG : ∀ i, i < n → Good (f i)) (hs : Sat B w [(5000, .row a n c (encI.enc (tab n f)) 3 1), (5001, e1), (5002, e2), (5003, e3), (5004, e4), (5005, e5), (5006, e6), (5007, e7), (5008, e8), (5009, e9), (5010, e10)]) :
    Calls Try.prog 129 #[.slice a n c, .int .i64 n, .func (.func 104) #[] #[.pointer (some ⟨cb, 0, none⟩)]] w fun e w' => ∃ g, e = .returned (.tuple #[]) ∧ Below B w w' ∧ Sat B w' [(5000, .row a n c (encI.enc (tab n g)) 3 1), (5001, e1), (5002, e2), (5003, e3), (5004, e4), (5005, e5), (5006, e6), (5007, e7), (5008, e8), (5009, e9), (5010, e10)] ∧ B ≤ w'.heap.size ∧ Kd (fun _ => False) w w' ∧ SoR (ltC cf) g 0 n ∧ SaS f g 0 n := by

  refine enterQ (N := 63) (C := fun _ => False) (H := [(5000, .row a n c (encI.enc (tab n f)) 3 1), (5001, e1), (5002, e2), (5003, e3), (5004, e4), (5005, e5), (5006, e6), (5007, e7), (5008, e8), (5009, e9), (5010, e10)]) (B := B) (args := [_, _, _]) Try.func129 rfl rfl rfl (hB) (hs) fun Q hQ => ?_
  refine wp_seq' fun K1 hK1 => ?_
  refine wp_reg ?_
  refine ol_r (r_assign rfl) rfl ?_
  refine ol_nil (to_k0 (fun _ _ h => h) (hK1 _ _ _ _ _ ?_))
  clear hK1
  refine wp_seq' fun K2 hK2 => ?_
  refine wp_reg ?_
  refine ol_r (r_move rfl) rfl ?_
  refine ol_r (r_assign rfl) rfl ?_
  refine ol_r (r_assign rfl) rfl ?_
  refine ol_nil (to_k0 (fun _ _ h => h) (hK2 _ _ _ _ _ ?_))
  clear hK2
  refine wp_seq' fun K3 hK3 => ?_
  refine wp_block' ?_
  apply wp_loopM (σ := Nat × (Nat → Int)) (fun s => s.1 ≤ n ∧ Hlf (ltC cf) f f s.2 20 n s.1 ∧ SaS f s.2 0 n) (fun s => [(7, .int .i64 s.1), (8, .int .i64 ((s.1 + 20 : Nat) : Int))]) [(0, _), (1, _), (2, _), (6, _)] (fun s => [(5000, .row a n c (encI.enc (tab n s.2)) 3 1)]) [(5001, _), (5002, _), (5003, _), (5004, _), (5005, _), (5006, _), (5007, _), (5008, _), (5009, _), (5010, _)] (fun s => n - s.1) ((0, f))
  ·try dsimp only
   exact ⟨Nat.zero_le _, Hlf.zero, SaS.refl _ _ _⟩
  ·exact (sub_cons rfl (sub_cons rfl sub_nil))
  ·exact (sub_cons rfl (sub_cons rfl (sub_cons rfl (sub_cons rfl sub_nil))))
  ·exact (subH_row rfl (by rfl) subH_nil)
  ·exact (subH_same rfl (subH_same rfl (subH_same rfl (subH_same rfl (subH_same rfl (subH_same rfl (subH_same rfl (subH_same rfl (subH_same rfl (subH_same rfl subH_nil))))))))))
  ·rintro ⟨A, F⟩ ⟨hA, hH, hS⟩
   dsimp only at hA hH hS ⊢
   have hGF := good_of hG hS
   intro K4 hK4
   refine wp_seq' fun K5 hK5 => ?_
   refine wp_seq' fun K6 hK6 => ?_
   refine wp_reg ?_
   refine ol_r (r_move rfl) rfl ?_
   refine ol_r (r_move rfl) rfl ?_
   refine ol_r (r_leq rfl rfl) rfl ?_
   refine ol_nil (to_k0 (fun _ _ h => h) (hK6 _ _ _ _ _ ?_))
   clear hK6
   refine wp_condD rfl (fun hc13 => ?_) (fun hc13 => ?_)
   ·refine wp_skip' (to_k0 (fun _ _ h => h) (hK5 _ _ _ _ _ ?_))
    clear hK5
    refine wp_block' ?_
    refine wp_seq' fun K7 hK7 => ?_
    refine wp_reg ?_
    refine ol_r (r_move rfl) rfl ?_
    refine ol_r (r_move rfl) rfl ?_
    refine ol_r (r_move rfl) rfl ?_
    refine ol_r (r_move rfl) rfl ?_
    refine ol_call rfl rfl cb145 rfl (fun w1 hb1 hs1 hB1 => ?_)
    refine Calls.mono (insertion_w cf Good B cb a n c e1 e2 e3 e4 e5 e6 e7 e8 e9 e10 F A (A + 20) _ hw hB1 hn (by omega) (by omega) hGF (fun x y x1 x2 x3 => by rw [hH.un x x1, hH.un y (by omega)]; exact hu x y x2 (by omega)) hcmp (hs1.sub (subH_same rfl (subH_same rfl (subH_same rfl (subH_same rfl (subH_same rfl (subH_same rfl (subH_same rfl (subH_same rfl (subH_same rfl (subH_same rfl (subH_same rfl subH_nil))))))))))))) ?_
    rintro e w2 ⟨g, rfl, hb2, hs2, hB2, hk2, hg⟩
    refine After.sat rfl hb1 hb2 hs2 hB2 (hk2.imp fun _ h => h.elim) ?_
    clear hk2 hs2 hb2 hB2 hB1 hs1 hb1 w2 w1
    refine ol_nil (to_k0 (fun _ _ h => h) (hK7 _ _ _ _ _ ?_))
    clear hK7
    refine wp_seq' fun K8 hK8 => ?_
    refine wp_reg ?_
    refine ol_r (r_move rfl) rfl ?_
    refine ol_r (r_assign rfl) rfl ?_
    refine ol_nil (to_k0 (fun _ _ h => h) (hK8 _ _ _ _ _ ?_))
    clear hK8
    refine wp_reg ?_
    refine ol_r (r_move rfl) rfl ?_
    refine ol_r (r_move rfl) rfl ?_
    refine ol_r (r_addT (A + 20 + 20) rfl rfl (by omega) (by omega)) rfl ?_
    refine ol_r (r_assign rfl) rfl ?_
    refine ol_nil (to_k0 (fun _ _ h => h) (hK4 ((A + 20, _)) _ _ ?_ ?_ (sub_cons rfl (sub_cons rfl sub_nil)) (sub_cons rfl (sub_cons rfl (sub_cons rfl (sub_cons rfl sub_nil)))) (by exact (subH_row rfl (by rfl) subH_nil)) (subH_same rfl (subH_same rfl (subH_same rfl (subH_same rfl (subH_same rfl (subH_same rfl (subH_same rfl (subH_same rfl (subH_same rfl (subH_same rfl subH_nil))))))))))))
    ·try dsimp only
     exact ⟨by omega, hH.next (by omega) (fun x hx => hg.out x hx) (hg.cong fun x x1 x2 => hH.un x x1), hS.trans (hg.all (by omega) (by omega))⟩
    ·try dsimp only
     omega
   ·refine wp_exit' (to_k0 (fun _ _ h => h) (hK3 _ _ _ _ _ ?_))
    clear hK3
    refine wp_seq' fun K9 hK9 => ?_
    refine wp_reg ?_
    refine ol_r (r_move rfl) rfl ?_
    refine ol_r (r_move rfl) rfl ?_
    refine ol_r (r_move rfl) rfl ?_
    refine ol_r (r_move rfl) rfl ?_
    refine ol_call rfl rfl cb145 rfl (fun w1 hb1 hs1 hB1 => ?_)
    refine Calls.mono (insertion_w cf Good B cb a n c e1 e2 e3 e4 e5 e6 e7 e8 e9 e10 F A n _ hw hB1 hn (Nat.le_refl _) (by omega) hGF (fun x y x1 x2 x3 => by rw [hH.un x x1, hH.un y (by omega)]; exact hu x y x2 (by omega)) hcmp (hs1.sub (subH_same rfl (subH_same rfl (subH_same rfl (subH_same rfl (subH_same rfl (subH_same rfl (subH_same rfl (subH_same rfl (subH_same rfl (subH_same rfl (subH_same rfl subH_nil))))))))))))) ?_
    rintro e w2 ⟨g, rfl, hb2, hs2, hB2, hk2, hg⟩
    refine After.sat rfl hb1 hb2 hs2 hB2 (hk2.imp fun _ h => h.elim) ?_
    clear hk2 hs2 hb2 hB2 hB1 hs1 hb1 w2 w1
    refine ol_nil (to_k0 (fun _ _ h => h) (hK9 _ _ _ _ _ ?_))
    clear hK9
    refine wp_block' ?_
    apply wp_loopM (σ := Nat × (Nat → Int)) (fun s => 0 < s.1 ∧ s.1 ≤ 4000000 ∧ Blks (ltC cf) f s.2 s.1 n ∧ SaS f s.2 0 n) (fun s => [(6, .int .i64 s.1)]) [(0, _), (1, _), (2, _)] (fun s => [(5000, .row a n c (encI.enc (tab n s.2)) 3 1)]) [(5001, _), (5002, _), (5003, _), (5004, _), (5005, _), (5006, _), (5007, _), (5008, _), (5009, _), (5010, _)] (fun s => n - s.1) ((20, _))
    ·try dsimp only
     have hL := hH.last (by omega) hA (by omega) (fun x hx => hg.out x hx) (hg.cong fun x x1 x2 => hH.un x x1)
     exact ⟨by omega, by omega, hL.1, hL.2⟩
    ·exact (sub_cons rfl sub_nil)
    ·exact (sub_cons rfl (sub_cons rfl (sub_cons rfl sub_nil)))
    ·exact (subH_row rfl (by rfl) subH_nil)
    ·exact (subH_same rfl (subH_same rfl (subH_same rfl (subH_same rfl (subH_same rfl (subH_same rfl (subH_same rfl (subH_same rfl (subH_same rfl (subH_same rfl subH_nil))))))))))
    ·rintro ⟨u, F⟩ ⟨hu0, hu1, hK, hS⟩
     dsimp only at hu0 hu1 hK hS ⊢
     intro K10 hK10
     refine wp_seq' fun K11 hK11 => ?_
     refine wp_seq' fun K12 hK12 => ?_
     refine wp_reg ?_
     refine ol_r (r_move rfl) rfl ?_
     refine ol_r (r_move rfl) rfl ?_
     refine ol_r (r_lss rfl rfl) rfl ?_
     refine ol_nil (to_k0 (fun _ _ h => h) (hK12 _ _ _ _ _ ?_))
     clear hK12
     refine wp_condD rfl (fun hc30 => ?_) (fun hc30 => ?_)
     ·refine wp_skip' (to_k0 (fun _ _ h => h) (hK11 _ _ _ _ _ ?_))
      clear hK11
      refine wp_block' ?_
      refine wp_seq' fun K13 hK13 => ?_
      refine wp_reg ?_
      refine ol_r (r_move rfl) rfl ?_
      refine ol_r (r_mulT (2 * u) rfl rfl (by omega) (by omega)) rfl ?_
      refine ol_r (r_assign rfl) rfl ?_
      refine ol_r (r_assign rfl) rfl ?_
      refine ol_nil (to_k0 (fun _ _ h => h) (hK13 _ _ _ _ _ ?_))
      clear hK13
      refine wp_seq' fun K14 hK14 => ?_
      refine wp_block' ?_
      apply wp_loopM (σ := Nat × (Nat → Int)) (fun s => s.1 ≤ n ∧ Hlf (ltC cf) f F s.2 (2 * u) n s.1 ∧ SaS f s.2 0 n) (fun s => [(7, .int .i64 s.1), (8, .int .i64 ((s.1 + 2 * u : Nat) : Int))]) [(0, _), (1, _), (2, _), (6, _)] (fun s => [(5000, .row a n c (encI.enc (tab n s.2)) 3 1)]) [(5001, _), (5002, _), (5003, _), (5004, _), (5005, _), (5006, _), (5007, _), (5008, _), (5009, _), (5010, _)] (fun s => n - s.1) ((0, F))
      ·try dsimp only
       exact ⟨Nat.zero_le _, Hlf.zero, hS⟩
      ·exact (sub_cons (by first | rfl | (rw [Nat.zero_add]; rfl)) (sub_cons (by first | rfl | (rw [Nat.zero_add]; rfl)) sub_nil))
      ·exact (sub_cons rfl (sub_cons rfl (sub_cons rfl (sub_cons rfl sub_nil))))
      ·exact (subH_row rfl (by rfl) subH_nil)
      ·exact (subH_same rfl (subH_same rfl (subH_same rfl (subH_same rfl (subH_same rfl (subH_same rfl (subH_same rfl (subH_same rfl (subH_same rfl (subH_same rfl subH_nil))))))))))
      ·rintro ⟨A, G⟩ ⟨hA, hH, hSG⟩
       dsimp only at hA hH hSG ⊢
       have hGG := good_of hG hSG
       have hdv : u ∣ A := Nat.dvd_trans ⟨2, by omega⟩ hH.dv
       intro K15 hK15
       refine wp_seq' fun K16 hK16 => ?_
       refine wp_seq' fun K17 hK17 => ?_
       refine wp_reg ?_
       refine ol_r (r_move rfl) rfl ?_
       refine ol_r (r_move rfl) rfl ?_
       refine ol_r (r_leq rfl rfl) rfl ?_
       refine ol_nil (to_k0 (fun _ _ h => h) (hK17 _ _ _ _ _ ?_))
       clear hK17
       refine wp_condD rfl (fun hc35 => ?_) (fun hc35 => ?_)
       ·refine wp_skip' (to_k0 (fun _ _ h => h) (hK16 _ _ _ _ _ ?_))
        clear hK16
        refine wp_block' ?_
        refine wp_seq' fun K18 hK18 => ?_
        refine wp_reg ?_
        refine ol_r (r_move rfl) rfl ?_
        refine ol_r (r_move rfl) rfl ?_
        refine ol_r (r_move rfl) rfl ?_
        refine ol_r (r_move rfl) rfl ?_
        have hMr := Blks.mrg (q := A + 2 * u) hu hu0 hK hdv (by omega) (by omega) (.inl (by omega)) hH.un
        refine ol_r (r_addT (A + u) rfl rfl (by omega) (by omega)) rfl ?_
        refine ol_r (r_move rfl) rfl ?_
        refine ol_r (r_move rfl) rfl ?_
        refine ol_call rfl rfl cb146 rfl (fun w1 hb1 hs1 hB1 => ?_)
        refine Calls.mono (symMerge_w cf Good B cb a n c e1 e2 e3 e4 e5 e6 e7 e8 e9 e10 hw hn hcmp (u + u) A (A + u) (A + 2 * u) G _ (by omega) hB1 (by omega) (by omega) (by omega) hGG hMr.1 (hs1.sub (subH_same rfl (subH_same rfl (subH_same rfl (subH_same rfl (subH_same rfl (subH_same rfl (subH_same rfl (subH_same rfl (subH_same rfl (subH_same rfl (subH_same rfl subH_nil))))))))))))) ?_
        rintro e w2 ⟨g, rfl, hb2, hs2, hB2, hk2, hg⟩
        refine After.sat rfl hb1 hb2 hs2 hB2 (hk2.imp fun _ h => h.elim) ?_
        clear hk2 hs2 hb2 hB2 hB1 hs1 hb1 w2 w1
        refine ol_nil (to_k0 (fun _ _ h => h) (hK18 _ _ _ _ _ ?_))
        clear hK18
        refine wp_seq' fun K19 hK19 => ?_
        refine wp_reg ?_
        refine ol_r (r_move rfl) rfl ?_
        refine ol_r (r_assign rfl) rfl ?_
        refine ol_nil (to_k0 (fun _ _ h => h) (hK19 _ _ _ _ _ ?_))
        clear hK19
        refine wp_reg ?_
        refine ol_r (r_move rfl) rfl ?_
        refine ol_r (r_move rfl) rfl ?_
        refine ol_r (r_mulT (2 * u) rfl rfl (by omega) (by omega)) rfl ?_
        refine ol_r (r_addT (A + 2 * u + 2 * u) rfl rfl (by omega) (by omega)) rfl ?_
        refine ol_r (r_assign rfl) rfl ?_
        refine ol_nil (to_k0 (fun _ _ h => h) (hK15 ((A + 2 * u, _)) _ _ ?_ ?_ (sub_cons rfl (sub_cons rfl sub_nil)) (sub_cons rfl (sub_cons rfl (sub_cons rfl (sub_cons rfl sub_nil)))) (by exact (subH_row rfl (by rfl) subH_nil)) (subH_same rfl (subH_same rfl (subH_same rfl (subH_same rfl (subH_same rfl (subH_same rfl (subH_same rfl (subH_same rfl (subH_same rfl (subH_same rfl subH_nil))))))))))))
        ·try dsimp only
         exact ⟨by omega, hH.next (by omega) (fun x hx => hg.out x hx) ⟨hg.so, hMr.2.trans hg.sa⟩, hSG.trans (hg.all (by omega) (by omega))⟩
        ·try dsimp only
         omega
       ·refine wp_exit' (to_k0 (fun _ _ h => h) (hK14 _ _ _ _ _ ?_))
        clear hK14
        apply wp_seq_cutM (σ := Nat → Int) (fun s => Blks (ltC cf) f s (2 * u) n ∧ SaS f s 0 n) (fun s => []) [(0, _), (1, _), (2, _), (6, _)] (fun s => [(5000, .row a n c (encI.enc (tab n s)) 3 1)]) [(5001, _), (5002, _), (5003, _), (5004, _), (5005, _), (5006, _), (5007, _), (5008, _), (5009, _), (5010, _)]
        ·exact (sub_cons rfl (sub_cons rfl (sub_cons rfl (sub_cons rfl sub_nil))))
        ·exact (subH_same rfl (subH_same rfl (subH_same rfl (subH_same rfl (subH_same rfl (subH_same rfl (subH_same rfl (subH_same rfl (subH_same rfl (subH_same rfl subH_nil))))))))))
        ·intro K20 hK20
         refine wp_seq' fun K21 hK21 => ?_
         refine wp_reg ?_
         refine ol_r (r_move rfl) rfl ?_
         refine ol_r (r_move rfl) rfl ?_
         refine ol_r (r_addT (A + u) rfl rfl (by omega) (by omega)) rfl ?_
         refine ol_r (r_assign rfl) rfl ?_
         refine ol_nil (to_k0 (fun _ _ h => h) (hK21 _ _ _ _ _ ?_))
         clear hK21
         refine wp_seq' fun K22 hK22 => ?_
         refine wp_reg ?_
         refine ol_r (r_move rfl) rfl ?_
         refine ol_r (r_move rfl) rfl ?_
         refine ol_r (r_lss rfl rfl) rfl ?_
         refine ol_nil (to_k0 (fun _ _ h => h) (hK22 _ _ _ _ _ ?_))
         clear hK22
         refine wp_condD rfl (fun hc54 => ?_) (fun hc54 => ?_)
         ·refine wp_reg ?_
          have hMr := Blks.mrg (q := n) hu hu0 hK hdv (by omega) (by omega) (.inr ⟨rfl, by omega⟩) hH.un
          refine ol_r (r_move rfl) rfl ?_
          refine ol_r (r_move rfl) rfl ?_
          refine ol_r (r_move rfl) rfl ?_
          refine ol_r (r_move rfl) rfl ?_
          refine ol_r (r_move rfl) rfl ?_
          refine ol_call rfl rfl cb146 rfl (fun w1 hb1 hs1 hB1 => ?_)
          refine Calls.mono (symMerge_w cf Good B cb a n c e1 e2 e3 e4 e5 e6 e7 e8 e9 e10 hw hn hcmp (u + u) A (A + u) n G _ (by omega) hB1 (by omega) (by omega) (by omega) hGG hMr.1 (hs1.sub (subH_same rfl (subH_same rfl (subH_same rfl (subH_same rfl (subH_same rfl (subH_same rfl (subH_same rfl (subH_same rfl (subH_same rfl (subH_same rfl (subH_same rfl subH_nil))))))))))))) ?_
          rintro e w2 ⟨g, rfl, hb2, hs2, hB2, hk2, hg⟩
          refine After.sat rfl hb1 hb2 hs2 hB2 (hk2.imp fun _ h => h.elim) ?_
          clear hk2 hs2 hb2 hB2 hB1 hs1 hb1 w2 w1
          refine ol_nil (to_k0 (fun _ _ h => h) (hK20 (_) _ _ ?_ sub_nil (sub_cons rfl (sub_cons rfl (sub_cons rfl (sub_cons rfl sub_nil)))) (subH_row rfl (by rfl) subH_nil) (subH_same rfl (subH_same rfl (subH_same rfl (subH_same rfl (subH_same rfl (subH_same rfl (subH_same rfl (subH_same rfl (subH_same rfl (subH_same rfl subH_nil))))))))))))
          try dsimp only
          first
          | exact hH.last (by omega) hA (by omega) (fun x hx => hg.out x hx) ⟨hg.so, hMr.2.trans hg.sa⟩
         ·refine wp_skip' (to_k0 (fun _ _ h => h) (hK20 (_) _ _ ?_ sub_nil (sub_cons rfl (sub_cons rfl (sub_cons rfl (sub_cons rfl sub_nil)))) (subH_row rfl (by rfl) subH_nil) (subH_same rfl (subH_same rfl (subH_same rfl (subH_same rfl (subH_same rfl (subH_same rfl (subH_same rfl (subH_same rfl (subH_same rfl (subH_same rfl subH_nil))))))))))))
          try dsimp only
          first
          | exact hH.last (by omega) hA (by omega) (fun _ _ => rfl) (Blks.rest hK hdv hA (by omega) hH.un)
        ·rintro G2 ⟨hL1, hL2⟩
         refine wp_reg ?_
         refine ol_r (r_move rfl) rfl ?_
         refine ol_r (r_mulT (2 * u) rfl rfl (by omega) (by omega)) rfl ?_
         refine ol_r (r_assign rfl) rfl ?_
         refine ol_nil (to_k0 (fun _ _ h => h) (hK10 ((2 * u, _)) _ _ ?_ ?_ (sub_cons rfl sub_nil) (sub_cons rfl (sub_cons rfl (sub_cons rfl sub_nil))) (by exact (subH_row rfl (by rfl) subH_nil)) (subH_same rfl (subH_same rfl (subH_same rfl (subH_same rfl (subH_same rfl (subH_same rfl (subH_same rfl (subH_same rfl (subH_same rfl (subH_same rfl subH_nil))))))))))))
         ·try dsimp only
          exact ⟨by omega, by omega, hL1, hL2⟩
         ·try dsimp only
          omega
     ·refine wp_exit' (hQ.fall rvs0 (fun _ _ h => h) fun w hb hs hB hkd => ?_)
      exact ⟨_, rfl, hb, hs.sub (subH_same rfl (subH_same rfl (subH_same rfl (subH_same rfl (subH_same rfl (subH_same rfl (subH_same rfl (subH_same rfl (subH_same rfl (subH_same rfl (subH_same rfl subH_nil))))))))))), hB, hkd, hK.whole (by omega), hS⟩

theorem sortStable_w (cf : Int → Int → Int) (Good : Int → Prop) (B : Nat) (cb : Nat) (a : Option Addr) (n c : Nat) (e1 e2 e3 e4 e5 e6 e7 e8 e9 e10 : Ent) (hw : Swo (ltC cf)) (hn : n ≤ 1000000) (hcmp : ∀ (w1 : World) (x y : Int), Good x → Good y → Sat B w1 [(5001, e1), (5002, e2)] → B ≤ w1.heap.size → Calls Try.prog 104 #[.int .i64 x, .int .i64 y, .pointer (some ⟨cb, 0, none⟩)] w1 fun e w' => e = .returned (.int .i64 (cf x y)) ∧ Below w1.heap.size w1 w') (f : Nat → Int) (w : World) (hB : B ≤ w.heap.size) (hu : ∀ x y, x < y → y < n → f x < f y) (hG : ∀ i, i < n → Good (f i)) (hs : Sat B w [(5000, .row a n c (encI.enc (tab n f)) 3 1), (5001, e1), (5002, e2), (5003, e3), (5004, e4), (5005, e5), (5006, e6), (5007, e7), (5008, e8), (5009, e9), (5010, e10)]) :
    Calls Try.prog 103 #[.slice a n c, .func (.func 104) #[] #[.pointer (some ⟨cb, 0, none⟩)]] w fun e w' => ∃ g, e = .returned (.tuple #[]) ∧ Below B w w' ∧ Sat B w' [(5000, .row a n c (encI.enc (tab n g)) 3 1), (5001, e1), (5002, e2), (5003, e3), (5004, e4), (5005, e5), (5006, e6), (5007, e7), (5008, e8), (5009, e9), (5010, e10)] ∧ B ≤ w'.heap.size ∧ Kd (fun _ => False) w w' ∧ SoR (ltC cf) g 0 n ∧ SaS f g 0 n := by

  refine enterQ (N := 9) (C := fun _ => False) (H := [(5000, .row a n c (encI.enc (tab n f)) 3 1), (5001, e1), (5002, e2), (5003, e3), (5004, e4), (5005, e5), (5006, e6), (5007, e7), (5008, e8), (5009, e9), (5010, e10)]) (B := B) (args := [_, _]) Try.func103 rfl rfl rfl (hB) (hs) fun Q hQ => ?_
  refine wp_reg ?_
  refine ol_r (r_move rfl) rfl ?_
  refine ol_r (r_move rfl) rfl ?_
  refine ol_r (r_len rfl sl150) rfl ?_
  refine ol_r (r_move rfl) rfl ?_
  refine ol_call rfl rfl cb129 rfl (fun w1 hb1 hs1 hB1 => ?_)
  refine Calls.mono (stable_w cf Good B cb a n c e1 e2 e3 e4 e5 e6 e7 e8 e9 e10 hw hn hcmp f _ hB1 hu hG (hs1.sub (subH_same rfl (subH_same rfl (subH_same rfl (subH_same rfl (subH_same rfl (subH_same rfl (subH_same rfl (subH_same rfl (subH_same rfl (subH_same rfl (subH_same rfl subH_nil))))))))))))) ?_
  rintro e w2 ⟨g, rfl, hb2, hs2, hB2, hk2, hg⟩
  refine After.sat rfl hb1 hb2 hs2 hB2 (hk2.imp fun _ h => h.elim) ?_
  clear hk2 hs2 hb2 hB2 hB1 hs1 hb1 w2 w1
  refine ol_nil (hQ.fall rvs0 (fun _ _ h => h) fun w hb hs hB hkd => ?_)
  exact ⟨_, rfl, hb, hs.sub (subH_same rfl (subH_same rfl (subH_same rfl (subH_same rfl (subH_same rfl (subH_same rfl (subH_same rfl (subH_same rfl (subH_same rfl (subH_same rfl (subH_same rfl subH_nil))))))))))), hB, hkd, hg⟩

end Go.Proofs.Ytjflbnbofedlkaa

/-
  Numbers of 64 bits without a sign, as naturals.
-/


namespace Go.Proofs.Ytjflbnbofedlkaa
namespace Hx
open Go Go.RowKit
set_option linter.unusedVariables false
set_option linter.unusedSimpArgs false
theorem wrapN {n : Nat} (h : n < 18446744073709551616) : IntKind.u64.wrap (n : Int) = n := by rw [IntKind.wrap_u64]; omega
section
variable {P : Program} {N : Fr} {B : Nat} {w0 : World} {al : AL} {H : HL} {ty : TypeId} {x y : Operand} {t t' : TypeId} {a b : Nat} {k : IntKind}
theorem r_addN (hx : ev al x = some (.int .u64 (a : Int))) (hy : ev al y = some (.int .u64 (b : Int))) (h : a + b < 18446744073709551616) : Runs P N B w0 (.binOp .add t x y t') ty al H (.int .u64 ((a + b : Nat) : Int)) :=
  r_addg _ hx hy (by rw [← Int.natCast_add]; exact wrapN h)
theorem r_mulN (hx : ev al x = some (.int .u64 (a : Int))) (hy : ev al y = some (.int .u64 (b : Int))) (h : a * b < 18446744073709551616) : Runs P N B w0 (.binOp .mul t x y t') ty al H (.int .u64 ((a * b : Nat) : Int)) :=
  r_mulg _ hx hy (by rw [← Int.natCast_mul]; exact wrapN h)
theorem r_subN (hx : ev al x = some (.int .u64 (a : Int))) (hy : ev al y = some (.int .u64 (b : Int))) (h : b ≤ a) (h2 : a < 18446744073709551616) : Runs P N B w0 (.binOp .sub t x y t') ty al H (.int .u64 ((a - b : Nat) : Int)) :=
  r_subg _ hx hy (by rw [← Int.ofNat_sub h]; exact wrapN (by omega))
theorem r_quoN (hx : ev al x = some (.int .u64 (a : Int))) (hy : ev al y = some (.int .u64 (b : Int))) (h : 0 < b) (h2 : a < 18446744073709551616) : Runs P N B w0 (.binOp .quo t x y t') ty al H (.int .u64 ((a / b : Nat) : Int)) := by
  have h3 : a / b ≤ a := Nat.div_le_self _ _
  exact r_quog hx hy (Int.natCast_nonneg _) (by omega) (by rw [← Int.natCast_ediv]; exact wrapN (by omega))
theorem r_remN (hx : ev al x = some (.int .u64 (a : Int))) (hy : ev al y = some (.int .u64 (b : Int))) (h : 0 < b) (h2 : a < 18446744073709551616) : Runs P N B w0 (.binOp .rem t x y t') ty al H (.int .u64 ((a % b : Nat) : Int)) := by
  have h3 : a % b ≤ a := Nat.mod_le _ _
  exact r_remg hx hy (Int.natCast_nonneg _) (by omega) (by rw [← Int.natCast_emod]; exact wrapN (by omega))
theorem r_and32N (hx : ev al x = some (.int .u64 (a : Int))) (hy : ev al y = some (.int .u64 4294967295)) (h : a < 18446744073709551616) : Runs P N B w0 (.binOp .and t x y t') ty al H (.int .u64 ((a % 4294967296 : Nat) : Int)) :=
  r_and32 _ hx hy (Int.natCast_nonneg _) (by omega) (by omega)
theorem r_shr32N (hx : ev al x = some (.int .u64 (a : Int))) (hy : ev al y = some (.int .u64 32)) : Runs P N B w0 (.binOp .shr t x y t') ty al H (.int .u64 ((a / 4294967296 : Nat) : Int)) :=
  r_shr32 _ hx hy (Int.natCast_nonneg _) (by omega)
theorem r_shrN (s : Nat) {n : Int} (hx : ev al x = some (.int .u64 (a : Int))) (hy : ev al y = some (.int k n)) (hn : n = s) (hs : s ≤ 64) : Runs P N B w0 (.binOp .shr t x y t') ty al H (.int .u64 ((a / 2 ^ s : Nat) : Int)) := fun ac w hst => by
  subst hn
  have h2 : (a : Int).fdiv (2 ^ s) = ((a / 2 ^ s : Nat) : Int) := by
    rw [Int.fdiv_eq_ediv_of_nonneg _ (Int.pow_nonneg (by decide)), Int.natCast_ediv, Int.natCast_pow]; rfl
  have h3 : min s IntKind.u64.bits = s := Nat.min_eq_left hs
  have h4 : ¬((s : Int) < 0) := by omega
  simp only [execOp, hst.regs.eval hx, hst.regs.eval hy, binOp_shr, Op.shift, eqGuard_shr, if_neg h4, Int.toNat_natCast, h3, h2, Sem.run_bind, Sem.run_pure, Result.andThen_ok]
theorem r_shlN (s : Nat) {n : Int} (hx : ev al x = some (.int .u64 (a : Int))) (hy : ev al y = some (.int k n)) (hn : n = s) (hs : s ≤ 64) (v : Nat) (hv : a * 2 ^ s % 18446744073709551616 = v) : Runs P N B w0 (.binOp .shl t x y t') ty al H (.int .u64 (v : Int)) := fun ac w hst => by
  subst hn
  have h2 : IntKind.u64.wrap ((a : Int) * 2 ^ s) = (v : Int) := by
    rw [IntKind.wrap_u64, ← hv, Int.natCast_emod, Int.natCast_mul, Int.natCast_pow]; rfl
  have h3 : min s IntKind.u64.bits = s := Nat.min_eq_left hs
  have h4 : ¬((s : Int) < 0) := by omega
  simp only [execOp, hst.regs.eval hx, hst.regs.eval hy, binOp_shl, Op.shift, eqGuard_shl, if_neg h4, Int.toNat_natCast, h3, h2, Sem.run_bind, Sem.run_pure, Result.andThen_ok]
theorem r_orN (s c : Nat) (hx : ev al x = some (.int .u64 (a : Int))) (hy : ev al y = some (.int .u64 (b : Int))) (ha : a = c * 2 ^ s) (hb : b < 2 ^ s) (h1 : a < 18446744073709551616) (h2 : b < 18446744073709551616) : Runs P N B w0 (.binOp .or t x y t') ty al H (.int .u64 ((a + b : Nat) : Int)) := fun ac w hst => by
  have h3 : bits .or .u64 (a : Int) (b : Int) = ((a + b : Nat) : Int) := by
    rw [bits_or_u64_nat a b h1 h2, ha, Nat.mul_comm, Nat.two_pow_add_eq_or_of_lt hb]
  simp only [execOp, hst.regs.eval hx, hst.regs.eval hy, eqGuard_or, binOp_or, intBits_or, h3, Sem.run_bind, Sem.run_pure, Result.andThen_ok]
theorem r_convN {src dst : TypeId} {k1 k2 : IntKind} (hx : ev al x = some (.int k1 (a : Int))) (hs : (P.underlying src).isSome = true) (hd : P.underlying dst = some (.int k2)) (hw : k2.wrap (a : Int) = a) :
    Runs P N B w0 (.convert src dst x) ty al H (.int k2 (a : Int)) := r_convg _ hx hs hd hw
end
end Hx
end Go.Proofs.Ytjflbnbofedlkaa

/-
  The quotient of a number of two words, by digits of 32 bits. No program stands here.
-/

namespace Go.Proofs.Ytjflbnbofedlkaa
set_option linter.unusedVariables false
/-- The quotient of one step. -/
def digQ (u d Y : Nat) : Nat := (u * 4294967296 + d) / Y
theorem dig_split (Y : Nat) : Y = Y / 4294967296 * 4294967296 + Y % 4294967296 := by omega
theorem dig_start {u d Y : Nat} (hY : 9223372036854775808 ≤ Y) (hY2 : Y < 18446744073709551616) (hu : u < Y) (hd : d < 4294967296) :
    u / (Y / 4294967296) * (Y / 4294967296) + u % (Y / 4294967296) = u ∧ digQ u d Y ≤ u / (Y / 4294967296) ∧ u / (Y / 4294967296) ≤ 4294967297 ∧ u % (Y / 4294967296) < Y / 4294967296 := by
  have hs := dig_split Y
  have hb : Y % 4294967296 < 4294967296 := Nat.mod_lt _ (by omega)
  have ha : 2147483648 ≤ Y / 4294967296 := by omega
  generalize Y / 4294967296 = a at *
  generalize Y % 4294967296 = b at *
  have h1 := Nat.div_add_mod u a
  have h2 := Nat.mod_lt u (show a > 0 by omega)
  rw [Nat.mul_comm] at h1
  refine ⟨h1, ?_, ?_, h2⟩
  · refine Nat.le_of_lt_succ ((Nat.div_lt_iff_lt_mul (by omega)).2 ?_)
    have e : (u / a + 1) * a = u / a * a + a := by rw [Nat.add_mul, Nat.one_mul]
    have h3 : u + 1 ≤ (u / a + 1) * a := by omega
    have h4 := Nat.mul_le_mul_right 4294967296 h3
    have h5 : (u / a + 1) * a * 4294967296 ≤ (u / a + 1) * Y := by
      rw [Nat.mul_assoc]; exact Nat.mul_le_mul_left (u / a + 1) (hs ▸ Nat.le_add_right _ _ : a * 4294967296 ≤ Y)
    rw [Nat.succ_eq_add_one]
    omega
  · refine Nat.le_of_lt_succ ((Nat.div_lt_iff_lt_mul (by omega)).2 ?_)
    rw [Nat.succ_eq_add_one]
    omega
theorem dig_mul (q Y : Nat) : q * Y = q * (Y / 4294967296) * 4294967296 + q * (Y % 4294967296) := by
  rw [Nat.mul_assoc, ← Nat.mul_add, ← dig_split]
theorem dig_dec {u d Y q r : Nat} (hY : 0 < Y) (hu : u < Y) (hd : d < 4294967296) (hs : q * (Y / 4294967296) + r = u) (ht : 4294967296 ≤ q ∨ 4294967296 * r + d < q * (Y % 4294967296)) : digQ u d Y < q := by
  refine (Nat.div_lt_iff_lt_mul hY).2 ?_
  rcases ht with h | h
  · have h1 := Nat.mul_le_mul_right Y h
    omega
  · rw [dig_mul q Y]
    generalize q * (Y / 4294967296) = x at *
    generalize q * (Y % 4294967296) = z at *
    omega
theorem dig_le {u d Y q r : Nat} (hY : 0 < Y) (hs : q * (Y / 4294967296) + r = u) (ht : q * (Y % 4294967296) ≤ 4294967296 * r + d) : q ≤ digQ u d Y := by
  refine (Nat.le_div_iff_mul_le hY).2 ?_
  rw [dig_mul q Y]
  generalize q * (Y / 4294967296) = x at *
  generalize q * (Y % 4294967296) = z at *
  omega
theorem dig_brk {Y q r d : Nat} (hq : q ≤ 4294967296) (hr : 4294967296 ≤ r) : q * (Y % 4294967296) ≤ 4294967296 * r + d := by
  have h1 : q * (Y % 4294967296) ≤ 4294967296 * 4294967296 := Nat.mul_le_mul hq (by omega)
  omega
theorem dig_low {q Y : Nat} (hq : q ≤ 4294967297) : q * (Y % 4294967296) ≤ 18446744073709551615 := by
  have h1 : q * (Y % 4294967296) ≤ 4294967297 * 4294967295 := Nat.mul_le_mul hq (by omega)
  omega
theorem dig_rest (u d Y : Nat) : digQ u d Y * Y + (u * 4294967296 + d) % Y = u * 4294967296 + d := by
  unfold digQ; exact Nat.div_add_mod' _ _
theorem digQ_lt {u d Y : Nat} (hu : u < Y) (hd : d < 4294967296) : digQ u d Y < 4294967296 := by
  refine (Nat.div_lt_iff_lt_mul (by omega)).2 ?_
  have h1 := Nat.mul_le_mul_right 4294967296 (show u + 1 ≤ Y from hu)
  rw [Nat.add_mul] at h1
  rw [Nat.mul_comm 4294967296 Y]
  omega
theorem div_two {hi lo y s : Nat} (hy : 0 < y) (hs : s ≤ 64) (hlo : lo < 18446744073709551616) :
    ∀ u, u = hi * 2 ^ s + lo / 2 ^ (64 - s) → ∀ t, t = lo * 2 ^ s % 18446744073709551616 → ∀ v, v = (u * 4294967296 + t / 4294967296) % (y * 2 ^ s) →
    digQ u (t / 4294967296) (y * 2 ^ s) * 4294967296 + digQ v (t % 4294967296) (y * 2 ^ s) = (hi * 18446744073709551616 + lo) / y ∧
    (v * 4294967296 + t % 4294967296) % (y * 2 ^ s) / 2 ^ s = (hi * 18446744073709551616 + lo) % y := by
  intro u hu t ht v hv
  have h2 : 0 < 2 ^ s := Nat.pow_pos (by omega)
  have hM : 2 ^ s * 2 ^ (64 - s) = 18446744073709551616 := by rw [← Nat.pow_add, Nat.add_sub_cancel' hs]
  have hut : u * 18446744073709551616 + t = (hi * 18446744073709551616 + lo) * 2 ^ s := by
    have e1 : lo / 2 ^ (64 - s) = lo * 2 ^ s / 18446744073709551616 := by
      rw [← hM, Nat.mul_comm (2 ^ s), Nat.mul_div_mul_right _ _ h2]
    have e2 := Nat.div_add_mod (lo * 2 ^ s) 18446744073709551616
    rw [hu, ht, e1, Nat.add_mul, Nat.add_mul, Nat.mul_right_comm]
    omega
  have e3 := dig_rest u (t / 4294967296) (y * 2 ^ s)
  rw [← hv] at e3
  have hall : (hi * 18446744073709551616 + lo) * 2 ^ s = (v * 4294967296 + t % 4294967296) + digQ u (t / 4294967296) (y * 2 ^ s) * 4294967296 * (y * 2 ^ s) := by
    rw [← hut, Nat.mul_right_comm (digQ _ _ _)]
    generalize digQ u (t / 4294967296) (y * 2 ^ s) * (y * 2 ^ s) = z at *
    omega
  have hY : 0 < y * 2 ^ s := Nat.mul_pos hy h2
  constructor
  · have h5 : (hi * 18446744073709551616 + lo) / y = (hi * 18446744073709551616 + lo) * 2 ^ s / (y * 2 ^ s) := (Nat.mul_div_mul_right _ _ h2).symm
    rw [h5, hall, Nat.add_mul_div_right _ _ hY, Nat.add_comm]
    rfl
  · have h6 : (v * 4294967296 + t % 4294967296) % (y * 2 ^ s) = (hi * 18446744073709551616 + lo) % y * 2 ^ s := by
      rw [← Nat.mul_mod_mul_right, hall, Nat.add_mul_mod_self_right]
    rw [h6, Nat.mul_div_cancel _ h2]
end Go.Proofs.Ytjflbnbofedlkaa
