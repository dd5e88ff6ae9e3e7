/-
  Parts of an activity: program and reference (under way).
-/
import Derived.Test.YtafkojlccknicaaEffRef
import Derived.Test.YtafkojlccknicaaHw
namespace Go.Proofs.Ytafkojlccknicaa
open Go Go.RowKit Hx
set_option linter.unusedVariables false
set_option linter.unusedSimpArgs false
set_option maxRecDepth 8000
/-- The sum of what is known, and how much is known. -/
def knS : List Int → Int
  | [] => 0
  | x :: r => (if 0 ≤ x then x else 0) + knS r
def knN : List Int → Int
  | [] => 0
  | x :: r => (if 0 ≤ x then 1 else 0) + knN r
theorem knS_app (xs ys : List Int) : knS (xs ++ ys) = knS xs + knS ys := by
  induction xs with
  | nil => simp [knS]
  | cons x r ih => rw [List.cons_append, knS, knS, ih]; omega
theorem knN_app (xs ys : List Int) : knN (xs ++ ys) = knN xs + knN ys := by
  induction xs with
  | nil => simp [knN]
  | cons x r ih => rw [List.cons_append, knN, knN, ih]; omega
theorem knS_succ {xs : List Int} {k : Nat} {x : Int} (h : xs[k]? = some x) : knS (xs.take (k + 1)) = knS (xs.take k) + (if 0 ≤ x then x else 0) := by
  rw [take_succ_get h, knS_app]; simp [knS]
theorem knN_succ {xs : List Int} {k : Nat} {x : Int} (h : xs[k]? = some x) : knN (xs.take (k + 1)) = knN (xs.take k) + (if 0 ≤ x then 1 else 0) := by
  rw [take_succ_get h, knN_app]; simp [knN]
theorem kn_bd : ∀ (xs : List Int), (∀ x ∈ xs, x ≤ 1000000000) → 0 ≤ knS xs ∧ knS xs ≤ 1000000000 * xs.length ∧ 0 ≤ knN xs ∧ knN xs ≤ xs.length
  | [], _ => by simp [knS, knN]
  | x :: r, h => by
    have h1 := kn_bd r fun y hy => h y (by simp [hy])
    have h2 := h x (by simp)
    rw [knS, knN, List.length_cons]
    split <;> omega
theorem effort_known (a : Option Addr) (n c : Nat) (xs : List Int) (w : World) (hx : Rd encI w.heap.size w a n c xs) (hl : xs.length ≤ 1000000) (hb : ∀ x ∈ xs, x ≤ 1000000000) :
    Calls Try.prog 127 #[.slice a n c] w fun e w' => e = .returned (.tuple #[.int .i64 (knS xs), .int .i64 (knN xs)]) ∧ Below w.heap.size w w' := by
  have hn := hx.len
  refine enterQ (N := 22) (C := fun _ => True) (H := []) (B := w.heap.size) (args := [_]) Try.func127 rfl rfl rfl (Nat.le_refl _) (Sat.nil _ _) fun Q hQ => ?_
  refine wp_seq' fun K1 hK1 => ?_
  refine wp_reg ?_
  refine ol_r (r_assign rfl) rfl ?_
  refine ol_r (r_assign rfl) rfl ?_
  refine ol_nil (to_k0 (fun _ _ h => h) (hK1 _ _ _ _ _ ?_))
  clear hK1
  refine wp_seq' fun K2 hK2 => ?_
  refine wp_seq' fun K3 hK3 => ?_
  refine wp_reg ?_
  refine ol_r (r_move rfl) rfl ?_
  refine ol_r (r_len rfl sl22) rfl ?_
  refine ol_r (r_move rfl) rfl ?_
  refine ol_nil (to_k0 (fun _ _ h => h) (hK3 _ _ _ _ _ ?_))
  clear hK3
  refine wp_block' ?_
  apply wp_loopM (σ := Nat × Int × Int) (fun s => s.1 ≤ xs.length ∧ s.2.1 = knS (xs.take s.1) ∧ s.2.2 = knN (xs.take s.1)) (fun s => [(8, .int .i64 s.1), (2, .int .i64 s.2.1), (3, .int .i64 s.2.2)]) [(6, _), (7, _)] (fun s => []) [] (fun s => xs.length - s.1) ((0, 0, 0))
  ·try dsimp only
   exact ⟨Nat.zero_le _, rfl, rfl⟩
  ·exact (sub_cons rfl (sub_cons rfl (sub_cons rfl sub_nil)))
  ·exact (sub_cons rfl (sub_cons rfl sub_nil))
  ·exact subH_nil
  ·exact subH_nil
  ·rintro ⟨k, sm, mn⟩ ⟨hk, hs0, hm0⟩
   dsimp only at hk hs0 hm0 ⊢
   have hbd := kn_bd (xs.take k) (fun x h => hb x (List.mem_of_mem_take h))
   rw [List.length_take] at hbd
   intro K4 hK4
   refine wp_seq' fun K5 hK5 => ?_
   refine wp_reg ?_
   refine ol_r (r_lss rfl rfl) rfl ?_
   refine ol_nil (to_k0 (fun _ _ h => h) (hK5 _ _ _ _ _ ?_))
   clear hK5
   refine wp_seq' fun K6 hK6 => ?_
   first | refine wp_condD rfl (fun hc9 => ?_) (fun hc9 => ?_) | refine wp_condN rfl (fun hc9 => ?_) (fun hc9 => ?_) | refine wp_condNB rfl (fun hc9 => ?_) (fun hc9 => ?_) | refine wp_cond' rfl (fun hc9 => ?_) (fun hc9 => ?_)
   ·refine wp_skip' (to_k0 (fun _ _ h => h) (hK6 _ _ _ _ _ ?_))
    clear hK6
    refine wp_seq' fun K7 hK7 => ?_
    refine wp_block' ?_
    refine wp_seq' fun K8 hK8 => ?_
    refine wp_reg ?_
    refine ol_ixr hx rfl rfl sl22 (by omega) rfl fun x10 hx10 => ?_
    try simp only [Int.toNat_natCast] at hx10
    refine ol_r (r_ldw rfl (fun w1 hb1 hs1 hB1 => show Loads _ _ _ _ (.int .i64 x10) from Rd.loads hx ty3 hx10 hb1)) rfl ?_
    refine ol_r (r_assign rfl) rfl ?_
    refine ol_nil (to_k0 (fun _ _ h => h) (hK8 _ _ _ _ _ ?_))
    clear hK8
    refine wp_seq' fun K9 hK9 => ?_
    refine wp_reg ?_
    refine ol_r (r_move rfl) rfl ?_
    refine ol_r (r_geq rfl rfl) rfl ?_
    refine ol_nil (to_k0 (fun _ _ h => h) (hK9 _ _ _ _ _ ?_))
    clear hK9
    first | refine wp_condD rfl (fun hc13 => ?_) (fun hc13 => ?_) | refine wp_condN rfl (fun hc13 => ?_) (fun hc13 => ?_) | refine wp_condNB rfl (fun hc13 => ?_) (fun hc13 => ?_) | refine wp_cond' rfl (fun hc13 => ?_) (fun hc13 => ?_)
    ·refine wp_reg ?_
     have hxb := hb _ (List.mem_of_getElem? hx10)
     refine ol_r (r_move rfl) rfl ?_
     refine ol_r (r_move rfl) rfl ?_
     refine ol_r (r_add rfl rfl (by omega)) rfl ?_
     refine ol_r (r_move rfl) rfl ?_
     refine ol_r (r_add rfl rfl (by omega)) rfl ?_
     refine ol_r (r_assign rfl) rfl ?_
     refine ol_r (r_assign rfl) rfl ?_
     refine ol_nil (to_k0 (fun _ _ h => h) (hK7 _ _ _ _ _ ?_))
     clear hK7
     refine wp_reg ?_
     refine ol_r (r_add rfl rfl (by omega)) rfl ?_
     refine ol_r (r_move rfl) rfl ?_
     refine ol_nil (to_k0 (fun _ _ h => h) (hK4 ((k + 1, _, _)) _ _ ?_ ?_ (sub_cons rfl (sub_cons rfl (sub_cons rfl sub_nil))) (sub_cons rfl (sub_cons rfl sub_nil)) (by exact subH_nil) subH_nil))
     ·try dsimp only
      first
        | exact ⟨by omega, by rw [knS_succ hx10, hs0, if_pos hc13], by rw [knN_succ hx10, hm0, if_pos hc13]⟩
        | exact ⟨by omega, by rw [knS_succ hx10, hs0, if_neg hc13]; omega, by rw [knN_succ hx10, hm0, if_neg hc13]; omega⟩
     ·try dsimp only
      omega
    ·refine wp_skip' (to_k0 (fun _ _ h => h) (hK7 _ _ _ _ _ ?_))
     clear hK7
     refine wp_reg ?_
     refine ol_r (r_add rfl rfl (by omega)) rfl ?_
     refine ol_r (r_move rfl) rfl ?_
     refine ol_nil (to_k0 (fun _ _ h => h) (hK4 ((k + 1, _, _)) _ _ ?_ ?_ (sub_cons rfl (sub_cons rfl (sub_cons rfl sub_nil))) (sub_cons rfl (sub_cons rfl sub_nil)) (by exact subH_nil) subH_nil))
     ·try dsimp only
      first
        | exact ⟨by omega, by rw [knS_succ hx10, hs0, if_pos hc13], by rw [knN_succ hx10, hm0, if_pos hc13]⟩
        | exact ⟨by omega, by rw [knS_succ hx10, hs0, if_neg hc13]; omega, by rw [knN_succ hx10, hm0, if_neg hc13]; omega⟩
     ·try dsimp only
      omega
   ·refine wp_exit' (to_k0 (fun _ _ h => h) (hK2 _ _ _ _ _ ?_))
    clear hK2
    refine wp_seq' fun K10 hK10 => ?_
    refine wp_reg ?_
    refine ol_r (r_move rfl) rfl ?_
    refine ol_r (r_move rfl) rfl ?_
    refine ol_r (r_assign rfl) rfl ?_
    refine ol_r (r_assign rfl) rfl ?_
    refine ol_nil (to_k0 (fun _ _ h => h) (hK10 _ _ _ _ _ ?_))
    clear hK10
    refine hQ.ret (rvs2 (rv_t rfl) (rv_t rfl)) (fun _ _ h => h) fun w hb hs hB hkd => ?_
    rw [List.take_of_length_le (by omega)] at hs0 hm0
    exact ⟨by rw [hs0, hm0], hb⟩
theorem ref4_known (a : Option Addr) (n c : Nat) (xs : List Int) (w : World) (hx : Rd encI w.heap.size w a n c xs) (hl : xs.length ≤ 1000000) (hb : ∀ x ∈ xs, x ≤ 1000000000) :
    Calls Try.prog 128 #[.slice a n c] w fun e w' => e = .returned (.tuple #[.int .i64 (knS xs), .int .i64 (knN xs)]) ∧ Below w.heap.size w w' := by
  have hn := hx.len
  refine enterQ (N := 22) (C := fun _ => True) (H := []) (B := w.heap.size) (args := [_]) Try.func128 rfl rfl rfl (Nat.le_refl _) (Sat.nil _ _) fun Q hQ => ?_
  refine wp_seq' fun K1 hK1 => ?_
  refine wp_reg ?_
  refine ol_r (r_assign rfl) rfl ?_
  refine ol_r (r_assign rfl) rfl ?_
  refine ol_nil (to_k0 (fun _ _ h => h) (hK1 _ _ _ _ _ ?_))
  clear hK1
  refine wp_seq' fun K2 hK2 => ?_
  refine wp_seq' fun K3 hK3 => ?_
  refine wp_reg ?_
  refine ol_r (r_move rfl) rfl ?_
  refine ol_r (r_len rfl sl22) rfl ?_
  refine ol_r (r_move rfl) rfl ?_
  refine ol_nil (to_k0 (fun _ _ h => h) (hK3 _ _ _ _ _ ?_))
  clear hK3
  refine wp_block' ?_
  apply wp_loopM (σ := Nat × Int × Int) (fun s => s.1 ≤ xs.length ∧ s.2.1 = knS (xs.take s.1) ∧ s.2.2 = knN (xs.take s.1)) (fun s => [(8, .int .i64 s.1), (2, .int .i64 s.2.1), (3, .int .i64 s.2.2)]) [(6, _), (7, _)] (fun s => []) [] (fun s => xs.length - s.1) ((0, 0, 0))
  ·try dsimp only
   exact ⟨Nat.zero_le _, rfl, rfl⟩
  ·exact (sub_cons rfl (sub_cons rfl (sub_cons rfl sub_nil)))
  ·exact (sub_cons rfl (sub_cons rfl sub_nil))
  ·exact subH_nil
  ·exact subH_nil
  ·rintro ⟨k, sm, mn⟩ ⟨hk, hs0, hm0⟩
   dsimp only at hk hs0 hm0 ⊢
   have hbd := kn_bd (xs.take k) (fun x h => hb x (List.mem_of_mem_take h))
   rw [List.length_take] at hbd
   intro K4 hK4
   refine wp_seq' fun K5 hK5 => ?_
   refine wp_reg ?_
   refine ol_r (r_lss rfl rfl) rfl ?_
   refine ol_nil (to_k0 (fun _ _ h => h) (hK5 _ _ _ _ _ ?_))
   clear hK5
   refine wp_seq' fun K6 hK6 => ?_
   first | refine wp_condD rfl (fun hc9 => ?_) (fun hc9 => ?_) | refine wp_condN rfl (fun hc9 => ?_) (fun hc9 => ?_) | refine wp_condNB rfl (fun hc9 => ?_) (fun hc9 => ?_) | refine wp_cond' rfl (fun hc9 => ?_) (fun hc9 => ?_)
   ·refine wp_skip' (to_k0 (fun _ _ h => h) (hK6 _ _ _ _ _ ?_))
    clear hK6
    refine wp_seq' fun K7 hK7 => ?_
    refine wp_block' ?_
    refine wp_seq' fun K8 hK8 => ?_
    refine wp_reg ?_
    refine ol_ixr hx rfl rfl sl22 (by omega) rfl fun x10 hx10 => ?_
    try simp only [Int.toNat_natCast] at hx10
    refine ol_r (r_ldw rfl (fun w1 hb1 hs1 hB1 => show Loads _ _ _ _ (.int .i64 x10) from Rd.loads hx ty3 hx10 hb1)) rfl ?_
    refine ol_r (r_assign rfl) rfl ?_
    refine ol_nil (to_k0 (fun _ _ h => h) (hK8 _ _ _ _ _ ?_))
    clear hK8
    refine wp_seq' fun K9 hK9 => ?_
    refine wp_reg ?_
    refine ol_r (r_move rfl) rfl ?_
    refine ol_r (r_geq rfl rfl) rfl ?_
    refine ol_nil (to_k0 (fun _ _ h => h) (hK9 _ _ _ _ _ ?_))
    clear hK9
    first | refine wp_condD rfl (fun hc13 => ?_) (fun hc13 => ?_) | refine wp_condN rfl (fun hc13 => ?_) (fun hc13 => ?_) | refine wp_condNB rfl (fun hc13 => ?_) (fun hc13 => ?_) | refine wp_cond' rfl (fun hc13 => ?_) (fun hc13 => ?_)
    ·refine wp_reg ?_
     have hxb := hb _ (List.mem_of_getElem? hx10)
     refine ol_r (r_move rfl) rfl ?_
     refine ol_r (r_move rfl) rfl ?_
     refine ol_r (r_add rfl rfl (by omega)) rfl ?_
     refine ol_r (r_move rfl) rfl ?_
     refine ol_r (r_add rfl rfl (by omega)) rfl ?_
     refine ol_r (r_assign rfl) rfl ?_
     refine ol_r (r_assign rfl) rfl ?_
     refine ol_nil (to_k0 (fun _ _ h => h) (hK7 _ _ _ _ _ ?_))
     clear hK7
     refine wp_reg ?_
     refine ol_r (r_add rfl rfl (by omega)) rfl ?_
     refine ol_r (r_move rfl) rfl ?_
     refine ol_nil (to_k0 (fun _ _ h => h) (hK4 ((k + 1, _, _)) _ _ ?_ ?_ (sub_cons rfl (sub_cons rfl (sub_cons rfl sub_nil))) (sub_cons rfl (sub_cons rfl sub_nil)) (by exact subH_nil) subH_nil))
     ·try dsimp only
      first
        | exact ⟨by omega, by rw [knS_succ hx10, hs0, if_pos hc13], by rw [knN_succ hx10, hm0, if_pos hc13]⟩
        | exact ⟨by omega, by rw [knS_succ hx10, hs0, if_neg hc13]; omega, by rw [knN_succ hx10, hm0, if_neg hc13]; omega⟩
     ·try dsimp only
      omega
    ·refine wp_skip' (to_k0 (fun _ _ h => h) (hK7 _ _ _ _ _ ?_))
     clear hK7
     refine wp_reg ?_
     refine ol_r (r_add rfl rfl (by omega)) rfl ?_
     refine ol_r (r_move rfl) rfl ?_
     refine ol_nil (to_k0 (fun _ _ h => h) (hK4 ((k + 1, _, _)) _ _ ?_ ?_ (sub_cons rfl (sub_cons rfl (sub_cons rfl sub_nil))) (sub_cons rfl (sub_cons rfl sub_nil)) (by exact subH_nil) subH_nil))
     ·try dsimp only
      first
        | exact ⟨by omega, by rw [knS_succ hx10, hs0, if_pos hc13], by rw [knN_succ hx10, hm0, if_pos hc13]⟩
        | exact ⟨by omega, by rw [knS_succ hx10, hs0, if_neg hc13]; omega, by rw [knN_succ hx10, hm0, if_neg hc13]; omega⟩
     ·try dsimp only
      omega
   ·refine wp_exit' (to_k0 (fun _ _ h => h) (hK2 _ _ _ _ _ ?_))
    clear hK2
    refine wp_seq' fun K10 hK10 => ?_
    refine wp_reg ?_
    refine ol_r (r_move rfl) rfl ?_
    refine ol_r (r_move rfl) rfl ?_
    refine ol_r (r_assign rfl) rfl ?_
    refine ol_r (r_assign rfl) rfl ?_
    refine ol_nil (to_k0 (fun _ _ h => h) (hK10 _ _ _ _ _ ?_))
    clear hK10
    refine hQ.ret (rvs2 (rv_t rfl) (rv_t rfl)) (fun _ _ h => h) fun w hb hs hB hkd => ?_
    rw [List.take_of_length_le (by omega)] at hs0 hm0
    exact ⟨by rw [hs0, hm0], hb⟩
/-- What is between f and t. -/
def subL (xs : List Int) (f t : Nat) : List Int := (xs.drop f).take (t - f)
theorem subL_in {xs : List Int} {f t : Nat} : ∀ x ∈ subL xs f t, x ∈ xs := fun x h => List.mem_of_mem_drop (List.mem_of_mem_take h)
theorem subL_len (xs : List Int) (f t : Nat) : (subL xs f t).length ≤ xs.length := by unfold subL; rw [List.length_take, List.length_drop]; omega
/-- A stream that is read: right, and long enough. -/
structure StrOk (w : World) (t : Nat) (a : Option Addr) (n c : Nat) (xs : List Int) : Prop where
  rd : Rd encI w.heap.size w a n c xs
  len : xs.length ≤ 1000000
  le : t ≤ xs.length
  bd : ∀ x ∈ xs, x ≤ 1000000000
theorem effort_partOf (a1 a2 a3 a4 a5 : Option Addr) (n1 n2 n3 n4 n5 c1 c2 c3 c4 c5 : Nat) (x1 x2 x3 x4 x5 : List Int) (f t : Nat) (w : World)
    (h1 : StrOk w t a1 n1 c1 x1) (h2 : StrOk w t a2 n2 c2 x2) (h3 : StrOk w t a3 n3 c3 x3) (h4 : StrOk w t a4 n4 c4 x4) (h5 : StrOk w t a5 n5 c5 x5) (hft : f ≤ t) :
    Calls Try.prog 85 #[.agg #[.slice none 0 0, .slice a1 n1 c1, .slice a2 n2 c2, .slice a3 n3 c3, .slice a4 n4 c4, .slice a5 n5 c5], .int .i64 f, .int .i64 t] w fun e w' =>
      e = .returned (.agg #[.int .i64 f, .int .i64 t, .int .i64 (knS (subL x4 f t)), .int .i64 (knS (subL x5 f t)), .int .i64 (knS (subL x1 f t)), .int .i64 (knS (subL x2 f t)), .int .i64 (knS (subL x3 f t)), .int .i64 (knN (subL x1 f t)), .int .i64 (knN (subL x2 f t)), .int .i64 (knN (subL x3 f t))]) ∧ Below w.heap.size w w' := by
  have r1 := h1.rd
  have r2 := h2.rd
  have r3 := h3.rd
  have r4 := h4.rd
  have r5 := h5.rd
  have l1 := r1.len
  have l2 := r2.len
  have l3 := r3.len
  have l4 := r4.len
  have l5 := r5.len
  have t1 := h1.le
  have t2 := h2.le
  have t3 := h3.le
  have t4 := h4.le
  have t5 := h5.le
  refine enterQ (N := 65) (C := fun _ => True) (H := []) (B := w.heap.size) (args := [_, _, _]) Try.func85 rfl rfl rfl (Nat.le_refl _) (Sat.nil _ _) fun Q hQ => ?_
  refine wp_seq' fun K1 hK1 => ?_
  refine wp_reg ?_
  refine ol_box 3 rfl rfl rfl fun b3 => ?_
  refine ol_alloc 6 z55 rfl fun b6 => ?_
  refine ol_nil (to_k0 (fun _ _ h => h) (hK1 _ _ _ _ _ ?_))
  clear hK1
  refine wp_seq' fun K2 hK2 => ?_
  refine wp_reg ?_
  refine ol_r (r_move rfl) rfl ?_
  refine ol_r (r_move rfl) rfl ?_
  refine ol_r (r_build rfl (fun _ => bd55_0_1 _ _ _)) rfl ?_
  refine ol_alloc 7 z55 rfl fun b7 => ?_
  refine ol_store (id := 7) rfl rfl rfl rfl sz55 rfl rfl (by first | decide | exact Nat.zero_lt_succ _ | simp) ?_
  refine ol_nil (to_k0 (fun _ _ h => h) (hK2 _ _ _ _ _ ?_))
  clear hK2
  refine wp_seq' fun K3 hK3 => ?_
  refine wp_reg ?_
  refine ol_r (r_ixa (o' := 1) rfl rfl ar114 (by decide) rfl) rfl ?_
  refine ol_r (r_ld (id := 3) rfl rfl rfl sc22) rfl ?_
  refine ol_r (r_move rfl) rfl ?_
  refine ol_r (r_move rfl) rfl ?_
  refine ol_slr r1 rfl rfl rfl sl22 (by simp only [Option.getD_some, Option.getD_none]; omega) rfl fun a16 c16 hl16 => ?_
  try simp only [Option.getD_some, Option.getD_none] at hl16 ⊢
  refine ol_call rfl rfl cb127 rfl (fun w1 hb1 hs1 hB1 => Calls.mono (effort_known _ _ _ (subL x1 f t) _ (hl16.at hb1 hB1) (Nat.le_trans (subL_len _ _ _) h1.len) (fun x h => h1.bd x (subL_in x h))) ?_)
  rintro e w2 ⟨rfl, hb2⟩
  refine After.below rfl hb1 hs1 hB1 hb2 ?_
  clear hb2 hB1 hs1 hb1 w2 w1
  refine ol_r (r_move rfl) rfl ?_
  refine ol_r (r_extract rfl rfl) rfl ?_
  refine ol_r (r_extract rfl rfl) rfl ?_
  refine ol_r (r_fa (o' := 4) rfl fl55_4 rfl) rfl ?_
  refine ol_store (id := 7) rfl rfl rfl rfl sz3 rfl rfl (by first | decide | exact Nat.zero_lt_succ _ | simp) ?_
  refine ol_r (r_fa (o' := 7) rfl fl55_7 rfl) rfl ?_
  refine ol_store (id := 7) rfl rfl rfl rfl sz3 rfl rfl (by first | decide | exact Nat.zero_lt_succ _ | simp) ?_
  refine ol_nil (to_k0 (fun _ _ h => h) (hK3 _ _ _ _ _ ?_))
  clear hK3
  refine wp_seq' fun K4 hK4 => ?_
  refine wp_reg ?_
  refine ol_r (r_ixa (o' := 2) rfl rfl ar114 (by decide) rfl) rfl ?_
  refine ol_r (r_ld (id := 3) rfl rfl rfl sc22) rfl ?_
  refine ol_r (r_move rfl) rfl ?_
  refine ol_r (r_move rfl) rfl ?_
  refine ol_slr r2 rfl rfl rfl sl22 (by simp only [Option.getD_some, Option.getD_none]; omega) rfl fun a27 c27 hl27 => ?_
  try simp only [Option.getD_some, Option.getD_none] at hl27 ⊢
  refine ol_call rfl rfl cb127 rfl (fun w1 hb1 hs1 hB1 => Calls.mono (effort_known _ _ _ (subL x2 f t) _ (hl27.at hb1 hB1) (Nat.le_trans (subL_len _ _ _) h2.len) (fun x h => h2.bd x (subL_in x h))) ?_)
  rintro e w2 ⟨rfl, hb2⟩
  refine After.below rfl hb1 hs1 hB1 hb2 ?_
  clear hb2 hB1 hs1 hb1 w2 w1
  refine ol_r (r_move rfl) rfl ?_
  refine ol_r (r_extract rfl rfl) rfl ?_
  refine ol_r (r_extract rfl rfl) rfl ?_
  refine ol_r (r_fa (o' := 5) rfl fl55_5 rfl) rfl ?_
  refine ol_store (id := 7) rfl rfl rfl rfl sz3 rfl rfl (by first | decide | exact Nat.zero_lt_succ _ | simp) ?_
  refine ol_r (r_fa (o' := 8) rfl fl55_8 rfl) rfl ?_
  refine ol_store (id := 7) rfl rfl rfl rfl sz3 rfl rfl (by first | decide | exact Nat.zero_lt_succ _ | simp) ?_
  refine ol_nil (to_k0 (fun _ _ h => h) (hK4 _ _ _ _ _ ?_))
  clear hK4
  refine wp_seq' fun K5 hK5 => ?_
  refine wp_reg ?_
  refine ol_r (r_ixa (o' := 3) rfl rfl ar114 (by decide) rfl) rfl ?_
  refine ol_r (r_ld (id := 3) rfl rfl rfl sc22) rfl ?_
  refine ol_r (r_move rfl) rfl ?_
  refine ol_r (r_move rfl) rfl ?_
  refine ol_slr r3 rfl rfl rfl sl22 (by simp only [Option.getD_some, Option.getD_none]; omega) rfl fun a38 c38 hl38 => ?_
  try simp only [Option.getD_some, Option.getD_none] at hl38 ⊢
  refine ol_call rfl rfl cb127 rfl (fun w1 hb1 hs1 hB1 => Calls.mono (effort_known _ _ _ (subL x3 f t) _ (hl38.at hb1 hB1) (Nat.le_trans (subL_len _ _ _) h3.len) (fun x h => h3.bd x (subL_in x h))) ?_)
  rintro e w2 ⟨rfl, hb2⟩
  refine After.below rfl hb1 hs1 hB1 hb2 ?_
  clear hb2 hB1 hs1 hb1 w2 w1
  refine ol_r (r_move rfl) rfl ?_
  refine ol_r (r_extract rfl rfl) rfl ?_
  refine ol_r (r_extract rfl rfl) rfl ?_
  refine ol_r (r_fa (o' := 6) rfl fl55_6 rfl) rfl ?_
  refine ol_store (id := 7) rfl rfl rfl rfl sz3 rfl rfl (by first | decide | exact Nat.zero_lt_succ _ | simp) ?_
  refine ol_r (r_fa (o' := 9) rfl fl55_9 rfl) rfl ?_
  refine ol_store (id := 7) rfl rfl rfl rfl sz3 rfl rfl (by first | decide | exact Nat.zero_lt_succ _ | simp) ?_
  refine ol_nil (to_k0 (fun _ _ h => h) (hK5 _ _ _ _ _ ?_))
  clear hK5
  refine wp_seq' fun K6 hK6 => ?_
  refine wp_reg ?_
  refine ol_r (r_ixa (o' := 4) rfl rfl ar114 (by decide) rfl) rfl ?_
  refine ol_r (r_ld (id := 3) rfl rfl rfl sc22) rfl ?_
  refine ol_r (r_move rfl) rfl ?_
  refine ol_r (r_move rfl) rfl ?_
  refine ol_slr r4 rfl rfl rfl sl22 (by simp only [Option.getD_some, Option.getD_none]; omega) rfl fun a49 c49 hl49 => ?_
  try simp only [Option.getD_some, Option.getD_none] at hl49 ⊢
  refine ol_call rfl rfl cb127 rfl (fun w1 hb1 hs1 hB1 => Calls.mono (effort_known _ _ _ (subL x4 f t) _ (hl49.at hb1 hB1) (Nat.le_trans (subL_len _ _ _) h4.len) (fun x h => h4.bd x (subL_in x h))) ?_)
  rintro e w2 ⟨rfl, hb2⟩
  refine After.below rfl hb1 hs1 hB1 hb2 ?_
  clear hb2 hB1 hs1 hb1 w2 w1
  refine ol_r (r_move rfl) rfl ?_
  refine ol_r (r_extract rfl rfl) rfl ?_
  refine ol_r (r_extract rfl rfl) rfl ?_
  refine ol_r (r_fa (o' := 2) rfl fl55_2 rfl) rfl ?_
  refine ol_store (id := 7) rfl rfl rfl rfl sz3 rfl rfl (by first | decide | exact Nat.zero_lt_succ _ | simp) ?_
  refine ol_nil (to_k0 (fun _ _ h => h) (hK6 _ _ _ _ _ ?_))
  clear hK6
  refine wp_seq' fun K7 hK7 => ?_
  refine wp_reg ?_
  refine ol_r (r_ixa (o' := 5) rfl rfl ar114 (by decide) rfl) rfl ?_
  refine ol_r (r_ld (id := 3) rfl rfl rfl sc22) rfl ?_
  refine ol_r (r_move rfl) rfl ?_
  refine ol_r (r_move rfl) rfl ?_
  refine ol_slr r5 rfl rfl rfl sl22 (by simp only [Option.getD_some, Option.getD_none]; omega) rfl fun a59 c59 hl59 => ?_
  try simp only [Option.getD_some, Option.getD_none] at hl59 ⊢
  refine ol_call rfl rfl cb127 rfl (fun w1 hb1 hs1 hB1 => Calls.mono (effort_known _ _ _ (subL x5 f t) _ (hl59.at hb1 hB1) (Nat.le_trans (subL_len _ _ _) h5.len) (fun x h => h5.bd x (subL_in x h))) ?_)
  rintro e w2 ⟨rfl, hb2⟩
  refine After.below rfl hb1 hs1 hB1 hb2 ?_
  clear hb2 hB1 hs1 hb1 w2 w1
  refine ol_r (r_move rfl) rfl ?_
  refine ol_r (r_extract rfl rfl) rfl ?_
  refine ol_r (r_extract rfl rfl) rfl ?_
  refine ol_r (r_fa (o' := 3) rfl fl55_3 rfl) rfl ?_
  refine ol_store (id := 7) rfl rfl rfl rfl sz3 rfl rfl (by first | decide | exact Nat.zero_lt_succ _ | simp) ?_
  refine ol_nil (to_k0 (fun _ _ h => h) (hK7 _ _ _ _ _ ?_))
  clear hK7
  refine wp_seq' fun K8 hK8 => ?_
  refine wp_reg ?_
  refine ol_r (r_lda (id := 7) (n := 10) rfl rfl rfl ag55) rfl ?_
  refine ol_store (id := 6) rfl rfl rfl rfl sz55 rfl rfl (by first | decide | exact Nat.zero_lt_succ _ | simp) ?_
  refine ol_nil (to_k0 (fun _ _ h => h) (hK8 _ _ _ _ _ ?_))
  clear hK8
  refine hQ.ret (rvs1 (rv_c (id := 6) (n := 10) rfl rfl ag55 rfl)) (fun _ _ h => h) fun w hb hs hB hkd => ?_
  exact ⟨rfl, hb⟩
theorem ref4_partOf (a1 a2 a3 a4 a5 : Option Addr) (n1 n2 n3 n4 n5 c1 c2 c3 c4 c5 : Nat) (x1 x2 x3 x4 x5 : List Int) (f t : Nat) (w : World)
    (h1 : StrOk w t a1 n1 c1 x1) (h2 : StrOk w t a2 n2 c2 x2) (h3 : StrOk w t a3 n3 c3 x3) (h4 : StrOk w t a4 n4 c4 x4) (h5 : StrOk w t a5 n5 c5 x5) (hft : f ≤ t) :
    Calls Try.prog 88 #[.agg #[.slice none 0 0, .slice a1 n1 c1, .slice a2 n2 c2, .slice a3 n3 c3, .slice a4 n4 c4, .slice a5 n5 c5], .int .i64 f, .int .i64 t] w fun e w' =>
      e = .returned (.agg #[.int .i64 f, .int .i64 t, .int .i64 (knS (subL x4 f t)), .int .i64 (knS (subL x5 f t)), .int .i64 (knS (subL x1 f t)), .int .i64 (knS (subL x2 f t)), .int .i64 (knS (subL x3 f t)), .int .i64 (knN (subL x1 f t)), .int .i64 (knN (subL x2 f t)), .int .i64 (knN (subL x3 f t))]) ∧ Below w.heap.size w w' := by
  have r1 := h1.rd
  have r2 := h2.rd
  have r3 := h3.rd
  have r4 := h4.rd
  have r5 := h5.rd
  have l1 := r1.len
  have l2 := r2.len
  have l3 := r3.len
  have l4 := r4.len
  have l5 := r5.len
  have t1 := h1.le
  have t2 := h2.le
  have t3 := h3.le
  have t4 := h4.le
  have t5 := h5.le
  refine enterQ (N := 65) (C := fun _ => True) (H := []) (B := w.heap.size) (args := [_, _, _]) Try.func88 rfl rfl rfl (Nat.le_refl _) (Sat.nil _ _) fun Q hQ => ?_
  refine wp_seq' fun K1 hK1 => ?_
  refine wp_reg ?_
  refine ol_box 3 rfl rfl rfl fun b3 => ?_
  refine ol_alloc 6 z55 rfl fun b6 => ?_
  refine ol_nil (to_k0 (fun _ _ h => h) (hK1 _ _ _ _ _ ?_))
  clear hK1
  refine wp_seq' fun K2 hK2 => ?_
  refine wp_reg ?_
  refine ol_r (r_move rfl) rfl ?_
  refine ol_r (r_move rfl) rfl ?_
  refine ol_r (r_build rfl (fun _ => bd55_0_1 _ _ _)) rfl ?_
  refine ol_alloc 7 z55 rfl fun b7 => ?_
  refine ol_store (id := 7) rfl rfl rfl rfl sz55 rfl rfl (by first | decide | exact Nat.zero_lt_succ _ | simp) ?_
  refine ol_nil (to_k0 (fun _ _ h => h) (hK2 _ _ _ _ _ ?_))
  clear hK2
  refine wp_seq' fun K3 hK3 => ?_
  refine wp_reg ?_
  refine ol_r (r_ixa (o' := 4) rfl rfl ar114 (by decide) rfl) rfl ?_
  refine ol_r (r_ld (id := 3) rfl rfl rfl sc22) rfl ?_
  refine ol_r (r_move rfl) rfl ?_
  refine ol_r (r_move rfl) rfl ?_
  refine ol_slr r4 rfl rfl rfl sl22 (by simp only [Option.getD_some, Option.getD_none]; omega) rfl fun a16 c16 hl16 => ?_
  try simp only [Option.getD_some, Option.getD_none] at hl16 ⊢
  refine ol_call rfl rfl cb128 rfl (fun w1 hb1 hs1 hB1 => Calls.mono (ref4_known _ _ _ (subL x4 f t) _ (hl16.at hb1 hB1) (Nat.le_trans (subL_len _ _ _) h4.len) (fun x h => h4.bd x (subL_in x h))) ?_)
  rintro e w2 ⟨rfl, hb2⟩
  refine After.below rfl hb1 hs1 hB1 hb2 ?_
  clear hb2 hB1 hs1 hb1 w2 w1
  refine ol_r (r_move rfl) rfl ?_
  refine ol_r (r_extract rfl rfl) rfl ?_
  refine ol_r (r_extract rfl rfl) rfl ?_
  refine ol_r (r_fa (o' := 2) rfl fl55_2 rfl) rfl ?_
  refine ol_store (id := 7) rfl rfl rfl rfl sz3 rfl rfl (by first | decide | exact Nat.zero_lt_succ _ | simp) ?_
  refine ol_nil (to_k0 (fun _ _ h => h) (hK3 _ _ _ _ _ ?_))
  clear hK3
  refine wp_seq' fun K4 hK4 => ?_
  refine wp_reg ?_
  refine ol_r (r_ixa (o' := 5) rfl rfl ar114 (by decide) rfl) rfl ?_
  refine ol_r (r_ld (id := 3) rfl rfl rfl sc22) rfl ?_
  refine ol_r (r_move rfl) rfl ?_
  refine ol_r (r_move rfl) rfl ?_
  refine ol_slr r5 rfl rfl rfl sl22 (by simp only [Option.getD_some, Option.getD_none]; omega) rfl fun a26 c26 hl26 => ?_
  try simp only [Option.getD_some, Option.getD_none] at hl26 ⊢
  refine ol_call rfl rfl cb128 rfl (fun w1 hb1 hs1 hB1 => Calls.mono (ref4_known _ _ _ (subL x5 f t) _ (hl26.at hb1 hB1) (Nat.le_trans (subL_len _ _ _) h5.len) (fun x h => h5.bd x (subL_in x h))) ?_)
  rintro e w2 ⟨rfl, hb2⟩
  refine After.below rfl hb1 hs1 hB1 hb2 ?_
  clear hb2 hB1 hs1 hb1 w2 w1
  refine ol_r (r_move rfl) rfl ?_
  refine ol_r (r_extract rfl rfl) rfl ?_
  refine ol_r (r_extract rfl rfl) rfl ?_
  refine ol_r (r_fa (o' := 3) rfl fl55_3 rfl) rfl ?_
  refine ol_store (id := 7) rfl rfl rfl rfl sz3 rfl rfl (by first | decide | exact Nat.zero_lt_succ _ | simp) ?_
  refine ol_nil (to_k0 (fun _ _ h => h) (hK4 _ _ _ _ _ ?_))
  clear hK4
  refine wp_seq' fun K5 hK5 => ?_
  refine wp_reg ?_
  refine ol_r (r_ixa (o' := 1) rfl rfl ar114 (by decide) rfl) rfl ?_
  refine ol_r (r_ld (id := 3) rfl rfl rfl sc22) rfl ?_
  refine ol_r (r_move rfl) rfl ?_
  refine ol_r (r_move rfl) rfl ?_
  refine ol_slr r1 rfl rfl rfl sl22 (by simp only [Option.getD_some, Option.getD_none]; omega) rfl fun a36 c36 hl36 => ?_
  try simp only [Option.getD_some, Option.getD_none] at hl36 ⊢
  refine ol_call rfl rfl cb128 rfl (fun w1 hb1 hs1 hB1 => Calls.mono (ref4_known _ _ _ (subL x1 f t) _ (hl36.at hb1 hB1) (Nat.le_trans (subL_len _ _ _) h1.len) (fun x h => h1.bd x (subL_in x h))) ?_)
  rintro e w2 ⟨rfl, hb2⟩
  refine After.below rfl hb1 hs1 hB1 hb2 ?_
  clear hb2 hB1 hs1 hb1 w2 w1
  refine ol_r (r_move rfl) rfl ?_
  refine ol_r (r_extract rfl rfl) rfl ?_
  refine ol_r (r_extract rfl rfl) rfl ?_
  refine ol_r (r_fa (o' := 4) rfl fl55_4 rfl) rfl ?_
  refine ol_store (id := 7) rfl rfl rfl rfl sz3 rfl rfl (by first | decide | exact Nat.zero_lt_succ _ | simp) ?_
  refine ol_r (r_fa (o' := 7) rfl fl55_7 rfl) rfl ?_
  refine ol_store (id := 7) rfl rfl rfl rfl sz3 rfl rfl (by first | decide | exact Nat.zero_lt_succ _ | simp) ?_
  refine ol_nil (to_k0 (fun _ _ h => h) (hK5 _ _ _ _ _ ?_))
  clear hK5
  refine wp_seq' fun K6 hK6 => ?_
  refine wp_reg ?_
  refine ol_r (r_ixa (o' := 2) rfl rfl ar114 (by decide) rfl) rfl ?_
  refine ol_r (r_ld (id := 3) rfl rfl rfl sc22) rfl ?_
  refine ol_r (r_move rfl) rfl ?_
  refine ol_r (r_move rfl) rfl ?_
  refine ol_slr r2 rfl rfl rfl sl22 (by simp only [Option.getD_some, Option.getD_none]; omega) rfl fun a47 c47 hl47 => ?_
  try simp only [Option.getD_some, Option.getD_none] at hl47 ⊢
  refine ol_call rfl rfl cb128 rfl (fun w1 hb1 hs1 hB1 => Calls.mono (ref4_known _ _ _ (subL x2 f t) _ (hl47.at hb1 hB1) (Nat.le_trans (subL_len _ _ _) h2.len) (fun x h => h2.bd x (subL_in x h))) ?_)
  rintro e w2 ⟨rfl, hb2⟩
  refine After.below rfl hb1 hs1 hB1 hb2 ?_
  clear hb2 hB1 hs1 hb1 w2 w1
  refine ol_r (r_move rfl) rfl ?_
  refine ol_r (r_extract rfl rfl) rfl ?_
  refine ol_r (r_extract rfl rfl) rfl ?_
  refine ol_r (r_fa (o' := 5) rfl fl55_5 rfl) rfl ?_
  refine ol_store (id := 7) rfl rfl rfl rfl sz3 rfl rfl (by first | decide | exact Nat.zero_lt_succ _ | simp) ?_
  refine ol_r (r_fa (o' := 8) rfl fl55_8 rfl) rfl ?_
  refine ol_store (id := 7) rfl rfl rfl rfl sz3 rfl rfl (by first | decide | exact Nat.zero_lt_succ _ | simp) ?_
  refine ol_nil (to_k0 (fun _ _ h => h) (hK6 _ _ _ _ _ ?_))
  clear hK6
  refine wp_seq' fun K7 hK7 => ?_
  refine wp_reg ?_
  refine ol_r (r_ixa (o' := 3) rfl rfl ar114 (by decide) rfl) rfl ?_
  refine ol_r (r_ld (id := 3) rfl rfl rfl sc22) rfl ?_
  refine ol_r (r_move rfl) rfl ?_
  refine ol_r (r_move rfl) rfl ?_
  refine ol_slr r3 rfl rfl rfl sl22 (by simp only [Option.getD_some, Option.getD_none]; omega) rfl fun a58 c58 hl58 => ?_
  try simp only [Option.getD_some, Option.getD_none] at hl58 ⊢
  refine ol_call rfl rfl cb128 rfl (fun w1 hb1 hs1 hB1 => Calls.mono (ref4_known _ _ _ (subL x3 f t) _ (hl58.at hb1 hB1) (Nat.le_trans (subL_len _ _ _) h3.len) (fun x h => h3.bd x (subL_in x h))) ?_)
  rintro e w2 ⟨rfl, hb2⟩
  refine After.below rfl hb1 hs1 hB1 hb2 ?_
  clear hb2 hB1 hs1 hb1 w2 w1
  refine ol_r (r_move rfl) rfl ?_
  refine ol_r (r_extract rfl rfl) rfl ?_
  refine ol_r (r_extract rfl rfl) rfl ?_
  refine ol_r (r_fa (o' := 6) rfl fl55_6 rfl) rfl ?_
  refine ol_store (id := 7) rfl rfl rfl rfl sz3 rfl rfl (by first | decide | exact Nat.zero_lt_succ _ | simp) ?_
  refine ol_r (r_fa (o' := 9) rfl fl55_9 rfl) rfl ?_
  refine ol_store (id := 7) rfl rfl rfl rfl sz3 rfl rfl (by first | decide | exact Nat.zero_lt_succ _ | simp) ?_
  refine ol_nil (to_k0 (fun _ _ h => h) (hK7 _ _ _ _ _ ?_))
  clear hK7
  refine wp_seq' fun K8 hK8 => ?_
  refine wp_reg ?_
  refine ol_r (r_lda (id := 7) (n := 10) rfl rfl rfl ag55) rfl ?_
  refine ol_store (id := 6) rfl rfl rfl rfl sz55 rfl rfl (by first | decide | exact Nat.zero_lt_succ _ | simp) ?_
  refine ol_nil (to_k0 (fun _ _ h => h) (hK8 _ _ _ _ _ ?_))
  clear hK8
  refine hQ.ret (rvs1 (rv_c (id := 6) (n := 10) rfl rfl ag55 rfl)) (fun _ _ h => h) fun w hb hs hB hkd => ?_
  exact ⟨rfl, hb⟩
end Go.Proofs.Ytafkojlccknicaa
