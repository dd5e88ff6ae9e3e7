/-
  More rules: append of a make, and an owned row cut to its beginning.
-/
import Derived.Lib.AppendZeros
import Derived.Lib.SlicesCompact
import Derived.Sort.EncStr
import Derived.Lib.AppendZerosOnto
import Derived.Lib.Overlaps
import Derived.Test.YtfbmkepogcimlaaTsA
import Derived.Test.YtfbmkepogcimlaaTsB
import Derived.Test.YtfbmkepogcimlaaTsC
import Derived.Test.YtfbmkepogcimlaaTsD


namespace Go.Proofs.Ytfbmkepogcimlaa.Hx
open Go Go.RowKit
set_option linter.unusedVariables false
set_option linter.unusedSimpArgs false
section
variable {P : Program} {N : Fr} {B : Nat} {w0 : World} {Q : Exit → Act → World → Prop} {al : AL} {H : HL} {ops rest : List Oper} {d : Nat} {ty : TypeId} {pos : String} {after : Array Edge}
/-- append(nil, make([]T, n)...): n elements, and what they are is not told. -/
theorem ol_appendZ {s x : Operand} {t tn e : TypeId} {size bytes : Nat} {n : Int} (id : Nat) (hs : ev al s = some (.slice none 0 0)) (hx : ev al x = some (.int .i64 n)) (hT : RowT P t e size bytes) (htn : P.underlying tn = some (.int .i64))
    (h0 : 0 < n) (hb : n ≤ 9223372036854775807 ∧ n * bytes ≤ 140737488355328) (hd : Nat.blt d N.n = true)
    (k : ∀ a' cap' zs, n.toNat ≤ cap' → OL P N B w0 ops rest Q ((d, .slice a' n.toNat cap') :: al) ((id, .row a' n.toNat cap' zs e size) :: H)) :
    OL P N B w0 ops ({ dst := some d, op := .call { callee := .builtin .append, args := #[s, x], argTypes := #[t, tn] }, type := ty, pos, after, guard := none } :: rest) Q al H := by
  intro a0 w hst
  refine wpList_plain rfl fun K hK => ?_
  obtain ⟨hu, i, z, hi, hz, hsz, hby, hzs, hpos⟩ := hT
  obtain ⟨m, rfl⟩ : ∃ m : Nat, n = m := ⟨n.toNat, by omega⟩
  have hr := Lib.run_append_nil_zeros (P := P) w t tn ty e i z .i64 .i64 hu htn hi hz m (by omega) (by omega) (by omega) (by rw [hby]; have := hb.2; rw [← Int.natCast_mul] at this; omega)
  have hrun : (execOp a0.eval { dst := some d, op := .call { callee := .builtin .append, args := #[s, x], argTypes := #[t, tn] }, type := ty, pos, after, guard := none }).run P w = .ok (.value (.slice (some ⟨w.heap.size, 0, none⟩) m (grownCap w m 0 e))) (w.drew.alloc (.cells (Builtin.zeroCells z.cells m ++ Builtin.zeroCells z.cells (grownCap w m 0 e - m)) e)) := by
    simp [BigFrame.execOp_builtin, BigFrame.builtin_append, hst.regs.eval hs, hst.regs.eval hx, hr]
  unfold Oper.wp
  rw [hrun, Oper.upon_value]
  have hge := grownCap_ge w m 0 e
  have hcm : grownCap w m 0 e ≤ maxLen := grownCap_le_maxLen w m 0 e (by unfold maxLen; omega)
  refine hK _ _ (k (some ⟨w.heap.size, 0, none⟩) (grownCap w m 0 e) (Builtin.zeroCells z.cells m).toList (by simpa using hge) _ _ (hst.step (hst.regs.put (by simpa using hd) _) (hst.below.drew.alloc hst.base _) ?_ (by have := hst.base; simp; omega) (Kd.trans (w1 := w.drew) (fun k o h _ _ => h) (Kd.alloc w.drew _))))
  refine hst.sat.new id (e := .row (some ⟨w.heap.size, 0, none⟩) m (grownCap w m 0 e) (Builtin.zeroCells z.cells m).toList e size) ?_ (fun k hk => Below.heap_alloc w.drew _ k hk) (fun b hb => by simp [Ent.own] at hb; omega)
  refine ⟨by rw [Array.length_toList, size_zeroCells, hzs], .inr ⟨w.heap.size, _, _, rfl, hst.base, heap_alloc_new w.drew _, hge, hcm, ?_, ?_⟩⟩
  · simp only [Array.size_append, size_zeroCells, hzs, ← Nat.add_mul]
    congr 1
    omega
  · rw [Array.toList_append, show m * size = (Builtin.zeroCells z.cells m).toList.length by rw [Array.length_toList, size_zeroCells, hzs]]
    exact List.take_left
theorem sliced_zero (a : Option Addr) (h cap size : Nat) : sliced a 0 h cap size = .slice a h cap := by
  unfold sliced
  cases a with
  | none => simp
  | some p => simp [add_none, Addr.add]
/-- An owned row's first elements. -/
theorem Sat.cut {w : World} {id n cap h : Nat} {a : Option Addr} {xs : List Value} {e : TypeId} {size : Nat} (hs : Sat B w H) (hr : look H id = some (.row a n cap xs e size)) (hh : h ≤ n) : Sat B w ((id, .row a h cap (xs.take (h * size)) e size) :: H) := by
  refine hs.turn hr ?_ (fun _ _ _ => rfl) (fun b hb => .inl hb)
  obtain ⟨h1, h2⟩ := hs.ok _ _ hr
  refine ⟨by rw [List.length_take, h1]; exact Nat.min_eq_left (Nat.mul_le_mul_right _ hh), ?_⟩
  rcases h2 with ⟨hv, h2⟩ | ⟨g, cap', cur, hv, hb, hg, hnc, hcm, hcs, htake⟩
  · cases hv
    obtain rfl : h = 0 := by omega
    exact .inl ⟨rfl, rfl⟩
  · cases hv
    exact .inr ⟨g, cap, cur, rfl, hb, hg, by omega, hcm, hcs, by rw [← htake, List.take_take, Nat.min_eq_left (Nat.mul_le_mul_right _ hh)]⟩
theorem r_capn {s : Operand} {t : TypeId} {p : Option Addr} {n cap size : Nat} (hs : ev al s = some (.slice p n cap)) (hT : Slc P t size) :
    Runs P N B w0 (.call { callee := .builtin .cap, args := #[s], argTypes := #[t] }) ty al H (.int .i64 cap) := fun a w hst => by
  obtain ⟨e, hu, hz⟩ := hT
  simp [BigFrame.execOp_builtin, BigFrame.builtin_cap, hst.regs.eval hs, Builtin.cap_, run_underlying hu, goInt]
theorem r_min3 {x y z : Operand} {tys : Array TypeId} {m n l : Int} (hx : ev al x = some (.int .i64 m)) (hy : ev al y = some (.int .i64 n)) (hz : ev al z = some (.int .i64 l)) :
    Runs P N B w0 (.call { callee := .builtin .min, args := #[x, y, z], argTypes := tys }) ty al H (.int .i64 (min (min m n) l)) := fun a w hst => by
  have h1 : (if n < m then n else m) = min m n := by rw [Int.min_def]; split <;> split <;> omega
  have h2 : (if l < min m n then l else min m n) = min (min m n) l := by rw [Int.min_def (min m n)]; split <;> split <;> omega
  simp [BigFrame.execOp_builtin, BigFrame.builtin_min, hst.regs.eval hx, hst.regs.eval hy, hst.regs.eval hz, Builtin.min_, Builtin.min2, h1, h2]
theorem ol_cutO {s : Operand} {hi : Operand} {id n cap : Nat} {h : Int} {a : Option Addr} {xs : List Value} {t e : TypeId} {size : Nat} (hs : ev al s = some (.slice a n cap)) (hr : look H id = some (.row a n cap xs e size)) (hhi : evo al (some hi) = some (some h)) (hT : Slc P t size)
    (h0 : 0 ≤ h ∧ h ≤ n) (hc : n ≤ cap) (hd : Nat.blt d N.n = true)
    (k : OL P N B w0 ops rest Q ((d, .slice a h.toNat cap) :: al) ((id, .row a h.toNat cap (xs.take (h.toNat * size)) e size) :: H)) :
    OL P N B w0 ops ({ dst := some d, op := .slice t s none (some hi) none, type := ty, pos, after, guard := none } :: rest) Q al H := by
  have hr1 := r_sl (P := P) (N := N) (B := B) (w0 := w0) (H := H) (ty := ty) hs (lo := none) (l := none) (hi := some hi) rfl hhi hT (by simp; omega) hc
  refine ol_r hr1 hd ?_
  have e1 : sliced a ((none : Option Int).getD 0).toNat ((some h).getD (n : Int)).toNat cap size = .slice a h.toNat cap := sliced_zero _ _ _ _
  rw [e1]
  exact fun a1 w hst => k a1 w (hst.step hst.regs hst.below (hst.sat.cut hr (by omega)) hst.base (Kd.refl _ _))
def Kle (H : HL) (ks : List (Nat × Nat)) (H' : HL) : Prop := ∀ j e, look H' j = some e → ∃ i f, (i, j) ∈ ks ∧ look H i = some f ∧ e.le f
theorem kle_nil {H : HL} : Kle H [] [] := fun j e h => by simp [look] at h
theorem kle_cons {H H' : HL} {i k : Nat} {e f : Ent} {ks : List (Nat × Nat)} (h : look H i = some f) (hl : e.le f) (hk : Kle H ks H') : Kle H ((i, k) :: ks) ((k, e) :: H') := fun j g hj => by
  by_cases hkj : k = j
  · subst hkj; rw [look_cons_eq] at hj; cases hj; exact ⟨i, f, by simp, h, hl⟩
  · rw [look_cons_ne _ _ hkj] at hj
    obtain ⟨i', f', h1, h2, h3⟩ := hk j g hj
    exact ⟨i', f', by simp [h1], h2, h3⟩
theorem Sat.kle {B : Nat} {H H' : HL} {w : World} (h : Sat B w H) (ks : List (Nat × Nat)) (hk : Kle H ks H') (hd : ∀ p ∈ ks, ∀ q ∈ ks, p.1 = q.1 → p.2 = q.2) : Sat B w H' :=
  ⟨fun j e he => by obtain ⟨i, f, _, h2, h3⟩ := hk j e he; exact h3.ok (h.ok i f h2), fun j j' e f hj he hf b hb => by
    obtain ⟨i, g, a1, a2, a3⟩ := hk j e he
    obtain ⟨i', g', b1, b2, b3⟩ := hk j' f hf
    exact fun hb' => h.apart i i' g g' (fun hii => hj (hd _ a1 _ b1 hii)) a2 b2 b (a3.own hb) (b3.own hb')⟩
theorem row_le {a : Option Addr} {n c s : Nat} {xs ys : List Value} {e : TypeId} (h : xs = ys) : (Ent.row a n c xs e s).le (.row a n c ys e s) := by subst h; exact Ent.le_refl _
end
end Go.Proofs.Ytfbmkepogcimlaa.Hx

/-
  Crossings of program and reference, whole; MatchCrossingsMatchSpec.
-/





namespace Go.Proofs.Ytfbmkepogcimlaa
open Go Go.RowKit Hx
set_option linter.unusedVariables false
set_option linter.unusedSimpArgs false
set_option maxRecDepth 8000
theorem cmp_OrI (a : Option Addr) (n c : Nat) (xs : List Int) (w : World) (hl : Rd encI w.heap.size w a n c xs) :
    Calls Try.prog 87 #[.slice a n c] w fun e w' => e = .returned (.int .i64 (orL xs)) ∧ Below w.heap.size w w' := by
  have hn := hl.len
  have hf := hl.fit
  refine enterQ (N := 18) (C := fun _ => True) (H := []) (B := w.heap.size) (args := [_]) Try.func87 rfl rfl rfl (Nat.le_refl _) (Sat.nil _ _) fun Q hQ => ?_
  refine wp_seq' fun K1 hK1 => ?_
  refine wp_reg ?_
  refine ol_r (r_assign rfl) rfl ?_
  refine ol_nil (to_k0 (fun _ _ h => h) (hK1 _ _ _ _ _ ?_))
  clear hK1
  refine wp_seq' fun K2 hK2 => ?_
  refine wp_reg ?_
  refine ol_r (r_assign rfl) rfl ?_
  refine ol_nil (to_k0 (fun _ _ h => h) (hK2 _ _ _ _ _ ?_))
  clear hK2
  refine wp_seq' fun K3 hK3 => ?_
  refine wp_seq' fun K4 hK4 => ?_
  refine wp_reg ?_
  refine ol_r (r_move rfl) rfl ?_
  refine ol_r (r_len rfl sl61) rfl ?_
  refine ol_r (r_move rfl) rfl ?_
  refine ol_nil (to_k0 (fun _ _ h => h) (hK4 _ _ _ _ _ ?_))
  clear hK4
  refine wp_block' ?_
  apply wp_loopM (σ := Nat) (fun s => s ≤ n ∧ ∀ x ∈ xs.take s, x = 0) (fun s => [(8, .int .i64 s)]) [(3, _), (6, _), (7, _)] (fun s => []) [] (fun s => n - s) (0)
  ·try dsimp only
   exact ⟨Nat.zero_le _, fun x hx => by simp at hx⟩
  ·exact (sub_cons rfl sub_nil)
  ·exact (sub_cons rfl (sub_cons rfl (sub_cons rfl sub_nil)))
  ·exact subH_nil
  ·exact subH_nil
  ·rintro k ⟨hk, hP⟩
   intro K5 hK5
   refine wp_seq' fun K6 hK6 => ?_
   refine wp_reg ?_
   refine ol_r (r_lss rfl rfl) rfl ?_
   refine ol_nil (to_k0 (fun _ _ h => h) (hK6 _ _ _ _ _ ?_))
   clear hK6
   refine wp_seq' fun K7 hK7 => ?_
   refine wp_condD rfl (fun hc9 => ?_) (fun hc9 => ?_)
   ·refine wp_skip' (to_k0 (fun _ _ h => h) (hK7 _ _ _ _ _ ?_))
    clear hK7
    refine wp_seq' fun K8 hK8 => ?_
    refine wp_block' ?_
    refine wp_seq' fun K9 hK9 => ?_
    refine wp_reg ?_
    refine ol_ixr hl rfl rfl sl61 (by omega) rfl fun x10 hx10 => ?_
    try simp only [Int.toNat_natCast] at hx10
    refine ol_r (r_ldw rfl (fun w1 hb1 hs1 hB1 => show Loads _ _ _ _ (.int .i64 x10) from Rd.loads hl ty3 hx10 hb1)) rfl ?_
    refine ol_r (r_assign rfl) rfl ?_
    refine ol_nil (to_k0 (fun _ _ h => h) (hK9 _ _ _ _ _ ?_))
    clear hK9
    refine wp_seq' fun K10 hK10 => ?_
    refine wp_reg ?_
    refine ol_r (r_move rfl) rfl ?_
    refine ol_r (r_move rfl) rfl ?_
    refine ol_r (r_neq rfl rfl) rfl ?_
    refine ol_nil (to_k0 (fun _ _ h => h) (hK10 _ _ _ _ _ ?_))
    clear hK10
    refine wp_condD rfl (fun hc14 => ?_) (fun hc14 => ?_)
    ·refine wp_seq' fun K11 hK11 => ?_
     refine wp_reg ?_
     refine ol_r (r_move rfl) rfl ?_
     refine ol_r (r_assign rfl) rfl ?_
     refine ol_nil (to_k0 (fun _ _ h => h) (hK11 _ _ _ _ _ ?_))
     clear hK11
     refine hQ.ret (rvs1 (rv_t rfl)) (fun _ _ h => h) fun w hb hs hB hkd => ?_
     rw [orL_next hP, drop_cons_get hx10, orL, if_pos hc14]
     exact ⟨rfl, hb⟩
    ·refine wp_skip' (to_k0 (fun _ _ h => h) (hK8 _ _ _ _ _ ?_))
     clear hK8
     refine wp_reg ?_
     refine ol_r (r_add rfl rfl (by omega)) rfl ?_
     refine ol_r (r_move rfl) rfl ?_
     refine ol_nil (to_k0 (fun _ _ h => h) (hK5 (k + 1) _ _ ?_ ?_ (sub_cons rfl sub_nil) (sub_cons rfl (sub_cons rfl (sub_cons rfl sub_nil))) (by exact subH_nil) subH_nil))
     ·try dsimp only
      refine ⟨by omega, fun x hx => ?_⟩
      rw [take_succ_get hx10] at hx
      rcases List.mem_append.1 hx with h | h
      · exact hP x h
      · simp at h; omega
     ·try dsimp only
      omega
   ·refine wp_exit' (to_k0 (fun _ _ h => h) (hK3 _ _ _ _ _ ?_))
    clear hK3
    refine wp_seq' fun K12 hK12 => ?_
    refine wp_reg ?_
    refine ol_r (r_move rfl) rfl ?_
    refine ol_r (r_assign rfl) rfl ?_
    refine ol_nil (to_k0 (fun _ _ h => h) (hK12 _ _ _ _ _ ?_))
    clear hK12
    refine hQ.ret (rvs1 (rv_t rfl)) (fun _ _ h => h) fun w hb hs hB hkd => ?_
    rw [orL_next hP, List.drop_eq_nil_of_le (by omega)]
    exact ⟨rfl, hb⟩
theorem or_two (p q : Int) : orL [cmpI (p / 18446744073709551616) (q / 18446744073709551616), cmpI (p % 18446744073709551616) (q % 18446744073709551616)] = cmpI p q := by
  unfold orL orL orL cmpI
  repeat' split
  all_goals first | rfl | (exfalso; omega) | omega
def PartOk (x : PartR) : Prop := (0 ≤ x.num ∧ x.num ≤ 200000000000000000) ∧ (1 ≤ x.den ∧ x.den ≤ 200000000000000000)
def cfP (x y : PartR) : Int := cmpI (x.num * y.den) (y.num * x.den)
theorem match_compare (x y : PartR) (w : World) (hx : PartOk x) (hy : PartOk y) :
    Calls Try.prog 104 #[encPart.val x, encPart.val y] w fun e w' => e = .returned (.int .i64 (cfP x y)) ∧ Below w.heap.size w w' := by
  obtain ⟨⟨x1, x2⟩, x3, x4⟩ := hx
  obtain ⟨⟨y1, y2⟩, y3, y4⟩ := hy
  have hw : ∀ m : Int, 0 ≤ m ∧ m ≤ 200000000000000000 → IntKind.u64.wrap m = m := fun m h => wrap_u64 (by omega)
  refine enterQ (N := 37) (C := fun _ => True) (H := []) (B := w.heap.size) (args := [_, _]) Try.func104 rfl rfl rfl (Nat.le_refl _) (Sat.nil _ _) fun Q hQ => ?_
  refine wp_seq' fun K1 hK1 => ?_
  refine wp_reg ?_
  refine ol_box 2 rfl rfl rfl fun b2 => ?_
  refine ol_box 3 rfl rfl rfl fun b3 => ?_
  refine ol_r (r_assign rfl) rfl ?_
  refine ol_nil (to_k0 (fun _ _ h => h) (hK1 _ _ _ _ _ ?_))
  clear hK1
  refine wp_seq' fun K2 hK2 => ?_
  refine wp_reg ?_
  refine ol_r (r_fa (o' := 0) rfl fl186_0 rfl) rfl ?_
  refine ol_r (r_ld (id := 2) rfl rfl rfl sc3) rfl ?_
  refine ol_r (r_conv (k2 := .u64) rfl (by kernel_rfl) (by kernel_rfl) (wrap_u64 (by omega))) rfl ?_
  refine ol_r (r_fa (o' := 1) rfl fl186_1 rfl) rfl ?_
  refine ol_r (r_ld (id := 3) rfl rfl rfl sc3) rfl ?_
  refine ol_r (r_conv (k2 := .u64) rfl (by kernel_rfl) (by kernel_rfl) (wrap_u64 (by omega))) rfl ?_
  refine ol_call rfl rfl cb94 rfl (fun w1 hb1 hs1 hB1 => Calls.mono (bits_MulI x.num y.den _ (by omega) (by omega)) ?_)
  rintro e w2 ⟨rfl, hb2⟩
  refine After.below rfl hb1 hs1 hB1 hb2 ?_
  clear hb2 hB1 hs1 hb1 w2 w1
  refine ol_r (r_move rfl) rfl ?_
  refine ol_r (r_extract rfl rfl) rfl ?_
  refine ol_r (r_extract rfl rfl) rfl ?_
  refine ol_r (r_assign rfl) rfl ?_
  refine ol_r (r_assign rfl) rfl ?_
  refine ol_nil (to_k0 (fun _ _ h => h) (hK2 _ _ _ _ _ ?_))
  clear hK2
  refine wp_seq' fun K3 hK3 => ?_
  refine wp_reg ?_
  refine ol_r (r_fa (o' := 0) rfl fl186_0 rfl) rfl ?_
  refine ol_r (r_ld (id := 3) rfl rfl rfl sc3) rfl ?_
  refine ol_r (r_conv (k2 := .u64) rfl (by kernel_rfl) (by kernel_rfl) (wrap_u64 (by omega))) rfl ?_
  refine ol_r (r_fa (o' := 1) rfl fl186_1 rfl) rfl ?_
  refine ol_r (r_ld (id := 2) rfl rfl rfl sc3) rfl ?_
  refine ol_r (r_conv (k2 := .u64) rfl (by kernel_rfl) (by kernel_rfl) (wrap_u64 (by omega))) rfl ?_
  refine ol_call rfl rfl cb94 rfl (fun w1 hb1 hs1 hB1 => Calls.mono (bits_MulI y.num x.den _ (by omega) (by omega)) ?_)
  rintro e w2 ⟨rfl, hb2⟩
  refine After.below rfl hb1 hs1 hB1 hb2 ?_
  clear hb2 hB1 hs1 hb1 w2 w1
  refine ol_r (r_move rfl) rfl ?_
  refine ol_r (r_extract rfl rfl) rfl ?_
  refine ol_r (r_extract rfl rfl) rfl ?_
  refine ol_r (r_assign rfl) rfl ?_
  refine ol_r (r_assign rfl) rfl ?_
  refine ol_nil (to_k0 (fun _ _ h => h) (hK3 _ _ _ _ _ ?_))
  clear hK3
  refine wp_seq' fun K4 hK4 => ?_
  refine wp_reg ?_
  refine ol_r (r_move rfl) rfl ?_
  refine ol_r (r_move rfl) rfl ?_
  refine ol_call rfl rfl cb96 rfl (fun w1 hb1 hs1 hB1 => Calls.mono (cmp_Compareu _ _ _) ?_)
  rintro e w2 ⟨rfl, hb2⟩
  refine After.below rfl hb1 hs1 hB1 hb2 ?_
  clear hb2 hB1 hs1 hb1 w2 w1
  refine ol_r (r_move rfl) rfl ?_
  refine ol_r (r_move rfl) rfl ?_
  refine ol_call rfl rfl cb96 rfl (fun w1 hb1 hs1 hB1 => Calls.mono (cmp_Compareu _ _ _) ?_)
  rintro e w2 ⟨rfl, hb2⟩
  refine After.below rfl hb1 hs1 hB1 hb2 ?_
  clear hb2 hB1 hs1 hb1 w2 w1
  refine ol_bsN 35 rfl rw61 rfl rfl (fun _ => by kernel_rfl) rfl fun a35 => ?_
  refine ol_call rfl rfl cb87 rfl (fun w1 hb1 hs1 hB1 => Calls.mono (cmp_OrI _ _ _ [cmpI (x.num * y.den / 18446744073709551616) (y.num * x.den / 18446744073709551616), cmpI (x.num * y.den % 18446744073709551616) (y.num * x.den % 18446744073709551616)] _ (Sat.rd hs1 (E := encI) (xs := [_, _]) (id := 35) rfl rfl)) ?_)
  rintro e w2 ⟨rfl, hb2⟩
  refine After.below rfl hb1 hs1 hB1 hb2 ?_
  clear hb2 hB1 hs1 hb1 w2 w1
  refine ol_r (r_assign rfl) rfl ?_
  refine ol_nil (to_k0 (fun _ _ h => h) (hK4 _ _ _ _ _ ?_))
  clear hK4
  refine hQ.ret (rvs1 (rv_t rfl)) (fun _ _ h => h) fun w hb hs hB hkd => ?_
  exact ⟨by rw [or_two]; rfl, hb⟩
theorem part_ok {g : GateR} {p q : SmpR} (hg : ∀ o, fG o g = 0) (hp : PlaceOk p) (hq : PlaceOk q) (h : crB g p q = true) : PartOk (partOf g p q) ∧ (partOf g p q).num ≤ (partOf g p q).den ∧ partOf g p q = ⟨-gSide g p, gSide g q - gSide g p⟩ := by
  obtain ⟨⟨g1, g2⟩, g3, g4⟩ := gate_bd hg
  obtain ⟨p1, p2⟩ := hp
  obtain ⟨q1, q2⟩ := hq
  have b1 := side6_bd g1 g2 g3 g4 p1 p2
  have b2 := side6_bd g1 g2 g3 g4 q1 q2
  have hpe : partOf g p q = ⟨-gSide g p, gSide g q - gSide g p⟩ := by rw [partOf, if_pos h]
  have hpo := crB_pos h
  unfold gSide at hpo hpe
  rw [hpe]
  unfold gSide
  exact ⟨⟨⟨by show 0 ≤ -_; omega, by show -_ ≤ _; omega⟩, by show 1 ≤ _ - _; omega, by show _ - _ ≤ (_ : Int); omega⟩, by show -_ ≤ _ - _; omega, rfl⟩
def cfG (gs : List GateR) (p q : SmpR) (i k : Int) : Int := if ltG gs p q i k = true then -1 else if ltG gs p q k i = true then 1 else 0
theorem cfG_lt (gs : List GateR) (p q : SmpR) : ltC (cfG gs p q) = ltG gs p q := by
  funext i k
  unfold ltC cfG
  cases h : ltG gs p q i k with
  | true => rfl
  | false => cases h2 : ltG gs p q k i <;> rfl
def GoodI (gs : List GateR) (p q : SmpR) (i : Int) : Prop := ∃ (j : Nat) (g : GateR), i = j ∧ gs[j]? = some g ∧ crB g p q = true
theorem cfG_cfP {gs : List GateR} {p q : SmpR} {i k : Nat} {g h : GateR} (hi : gs[i]? = some g) (hk : gs[k]? = some h) (h1 : PartOk (partOf g p q)) (h2 : PartOk (partOf h p q)) : cfG gs p q i k = cfP (partOf g p q) (partOf h p q) := by
  unfold cfG ltG cfP cmpI
  rw [gPart_at hi, gPart_at hk, posI_eq (n := (partOf g p q).den) (by have := h1.2.1; omega), posI_eq (n := (partOf h p q).den) (by have := h2.2.1; omega)]
  simp only [decide_eq_true_eq]
theorem crossings_cmp (gs : List GateR) (p q : SmpR) (B cb : Nat) (pa : Option Addr) (pn pc : Nat) (w : World) (x y : Int) (hg : ∀ g ∈ gs, ∀ o, fG o g = 0) (hp : PlaceOk p) (hq : PlaceOk q) (hl : gs.length ≤ 50) (hpn : pn = gs.length) (hx : GoodI gs p q x) (hy : GoodI gs p q y)
    (hs : Sat B w [(5001, .blk cb [(0, .slice pa pn pc)] 184), (5002, .row pa pn pc (encPart.enc (gs.map fun g => partOf g p q)) 186 2)]) (hB : B ≤ w.heap.size) :
    Calls Try.prog 103 #[.int .i64 x, .int .i64 y, .pointer (some ⟨cb, 0, none⟩)] w fun e w' => e = .returned (.int .i64 (cfG gs p q x y)) ∧ Below w.heap.size w w' := by
  obtain ⟨i, g, rfl, hi, hcg⟩ := hx
  obtain ⟨k, h, rfl, hk, hch⟩ := hy
  obtain ⟨ok1, _, _⟩ := part_ok (hg g (List.mem_of_getElem? hi)) hp hq hcg
  obtain ⟨ok2, _, _⟩ := part_ok (hg h (List.mem_of_getElem? hk)) hp hq hch
  have hil := (List.getElem?_eq_some_iff.1 hi).1
  have hkl := (List.getElem?_eq_some_iff.1 hk).1
  have hml : (gs.map fun g => partOf g p q).length = gs.length := List.length_map _
  have hb0 := hs.blk (id := 5001) rfl
  have hr0 := Sat.rd hs (E := encPart) (xs := gs.map fun g => partOf g p q) (id := 5002) rfl rfl
  rw [cfG_cfP hi hk ok1 ok2]
  refine enterQ (N := 15) (C := fun _ => True) (H := []) (B := w.heap.size) (args := [_, _, _]) Try.func103 rfl rfl rfl (Nat.le_refl _) (Sat.nil _ _) fun Q hQ => ?_
  refine wp_seq' fun K1 hK1 => ?_
  refine wp_reg ?_
  refine ol_r (r_assign rfl) rfl ?_
  refine ol_nil (to_k0 (fun _ _ h => h) (hK1 _ _ _ _ _ ?_))
  clear hK1
  refine wp_seq' fun K2 hK2 => ?_
  refine wp_regq (by kernel_rfl) (by kernel_rfl) ?_
  refine ql_r (r_ldw rfl (fun w1 hb1 hs1 hB1 => Blk.loads (o := 0) hb0 hb1 sc184 rfl)) rfl ?_
  refine ql_r (r_move rfl) rfl ?_
  refine ql_ixr hr0 rfl rfl sl184 (by omega) rfl fun x8 hx8 => ?_
  try simp only [Int.toNat_natCast] at hx8
  refine ql_r (r_ldw rfl (fun w1 hb1 hs1 hB1 => Rd.loads hr0 ty186 hx8 hb1)) rfl ?_
  refine ql_r (r_ldw rfl (fun w1 hb1 hs1 hB1 => Blk.loads (o := 0) hb0 hb1 sc184 rfl)) rfl ?_
  refine ql_r (r_move rfl) rfl ?_
  refine ql_ixr hr0 rfl rfl sl184 (by omega) rfl fun x12 hx12 => ?_
  try simp only [Int.toNat_natCast] at hx12
  refine ql_r (r_ldw rfl (fun w1 hb1 hs1 hB1 => Rd.loads hr0 ty186 hx12 hb1)) rfl ?_
  obtain rfl : x8 = partOf g p q := by rw [List.getElem?_map, hi] at hx8; exact (Option.some.inj hx8).symm
  obtain rfl : x12 = partOf h p q := by rw [List.getElem?_map, hk] at hx12; exact (Option.some.inj hx12).symm
  refine ql_call rfl rfl cb104 rfl (fun w1 hb1 hs1 hB1 => match_compare _ _ _ ok1 ok2) ?_
  refine ql_r (r_assign rfl) rfl ?_
  refine ql_nil (to_k0 (fun _ _ h => h) (hK2 _ _ _ _ _ ?_))
  clear hK2
  refine hQ.ret (rvs1 (rv_t rfl)) (fun _ _ h => h) fun w hb hs hB hkd => ?_
  exact ⟨rfl, hb⟩
theorem gOrd_of {gs : List GateR} {p q : SmpR} {k : Nat} {f g : Nat → Int} {n : Nat} (hf : gIdx gs p q k = tab n f) (h1 : SoR (ltG gs p q) g 0 n) (h2 : SaS f g 0 n) : tab n g = gOrd gs p q k :=
  gOrd_one (tab_pair h1) fun x => by rw [hf]; exact (h2.mem x).symm
theorem scale_part {x : PartR} {d : Int} (hx : PartOk x) (hnd : x.num ≤ x.den) (hd : 0 ≤ d ∧ d ≤ 1000000000) : x.num * (1000 * d) / x.den ≤ 1000 * d ∧ 0 ≤ x.num * (1000 * d) / x.den := by
  constructor
  · refine Int.ediv_le_of_le_mul (by have := hx.2.1; omega) ?_
    rw [Int.mul_comm]
    exact Int.mul_le_mul_of_nonneg_left hnd (by omega)
  · exact Int.ediv_nonneg (Int.mul_nonneg hx.1.1 (by omega)) (by have := hx.2.1; omega)
theorem cross_gen (nm : ByteArray) (ga : Option Addr) (gn gc : Nat) (gs : List GateR) (A : ActV) (w : World) (hS : Rd encGate w.heap.size w ga gn gc gs) (hA : A.Ok w.heap.size w) (hseg : SegOk nm gs) (hok : SmpOk A.start A.ss) :
    Calls Try.prog 70 #[.agg #[.string nm, .slice ga gn gc], .agg #[.string A.name, .int .i64 A.sport, .int .i64 A.start, .slice A.sa A.sn A.sc, .slice A.la A.ln A.lc, .slice A.ta A.tn A.tc]] w fun e w' => ∃ b m k, e = .returned (.slice b m k) ∧ Fresh encCr 137 w w' b m k (crossS gs (stepsL A.ss) (stepsL A.ss).length) := by
  have hgn := hS.len
  have hgl := hseg.len
  have hsn := hA.s.len
  have hsf := hA.s.fit
  have hlen := stepsL_len A.ss
  have hl20 := hok.len
  refine enterQ (N := 92) (C := fun _ => True) (H := []) (B := w.heap.size) (args := [_, _]) Try.func70 rfl rfl rfl (Nat.le_refl _) (Sat.nil _ _) fun Q hQ => ?_
  refine wp_seq' fun K1 hK1 => ?_
  refine wp_reg ?_
  refine ol_box 2 rfl rfl rfl fun b2 => ?_
  refine ol_box 3 rfl rfl rfl fun b3 => ?_
  refine ol_r (r_assign rfl) rfl ?_
  refine ol_nil (to_k0 (fun _ _ h => h) (hK1 _ _ _ _ _ ?_))
  clear hK1
  refine wp_seq' fun K2 hK2 => ?_
  refine wp_reg ?_
  refine ol_alloc 5 z134 rfl fun b5 => ?_
  refine ol_nilrow 3005 137 3 ?_
  refine ol_nil (to_k0 (fun _ _ h => h) (hK2 _ _ _ _ _ ?_))
  clear hK2
  refine wp_seq' fun K3 hK3 => ?_
  refine wp_reg ?_
  refine ol_alloc 6 z3 rfl fun b6 => ?_
  refine ol_store (id := 6) rfl rfl rfl rfl sz3 rfl rfl (by first | decide | exact Nat.zero_lt_succ _ | simp) ?_
  refine ol_nil (to_k0 (fun _ _ h => h) (hK3 _ _ _ _ _ ?_))
  clear hK3
  refine wp_seq' fun K4 hK4 => ?_
  refine wp_seq' fun K5 hK5 => ?_
  refine wp_reg ?_
  refine ol_r (r_lda (id := 3) (n := 6) rfl rfl rfl ag57) rfl ?_
  refine ol_call rfl rfl cb100 rfl (fun w1 hb1 hs1 hB1 => ?_)
  refine Calls.mono (track_Steps A _ (hA.at hb1 hB1)) ?_
  rintro e w2 ⟨b0, T0, rfl, hb2, hs2⟩
  refine After.more rfl hb1 hs1 hB1 hb2 hs2 ?_
  clear hs2 hb2 hB1 hs1 hb1 w2 w1
  refine ol_nil (to_k0 (fun _ _ h => h) (hK5 _ _ _ _ _ ?_))
  clear hK5
  refine wp_block' ?_
  refine wp_rf (σ := Option Addr × Nat × Nat) (τ := Unit) (encs := fun x : SmpR × SmpR => [.agg #[.int .i64 x.1.at_, .int .i64 x.1.x, .int .i64 x.1.y, .int .i64 x.1.z, .int .i64 x.1.pulse, .int .i64 x.1.power, .int .i64 x.1.steps], .agg #[.int .i64 x.2.at_, .int .i64 x.2.x, .int .i64 x.2.y, .int .i64 x.2.z, .int .i64 x.2.pulse, .int .i64 x.2.power, .int .i64 x.2.steps]]) (zs := stepsL A.ss) rfl cb130 (steps_iter A _ b0 _ hA.s) (by rfl) (by rfl) (by rfl) (fun _ => rfl) (fun k s => k ≤ (stepsL A.ss).length ∧ s.2.1 ≤ 50 * k) (fun k s => [(5, .blk b5 [(0, .slice s.1 s.2.1 s.2.2)] 134), (6, .blk b6 [(0, .int .i64 k)] 3), (3005, .row s.1 s.2.1 s.2.2 (encCr.enc (crossS gs (stepsL A.ss) k)) 137 3)]) [(2, _), (3, _), (1001, _)] (fun t => False) (fun t => []) ((none, 0, 0)) ?_ (by exact (subH_blk rfl (sub_cons rfl sub_nil) (subH_blk rfl (sub_cons rfl sub_nil) (subH_row rfl (by rfl) subH_nil)))) (subH_same rfl (subH_same rfl (subH_same rfl subH_nil))) ?_ ?_ ?_ ?_
  ·try dsimp only
   omega
  ·intro k s W hI hbW hsW hBW
   exact ⟨hbW, ⟨_, hsW.one 1001 100 rfl (Ent.le_refl _)⟩, hBW⟩
  ·rintro k x ⟨oa, on, oc⟩ B0 W hx hI hbW hBW hB0
   have hxx := stepsL_inv hx
   have hp := hok.place (List.mem_of_getElem? hxx.1)
   have hq := hok.place (List.mem_of_getElem? hxx.2)
   have hba := hok.bd _ (List.mem_of_getElem? hxx.1)
   have hbb := hok.bd _ (List.mem_of_getElem? hxx.2)
   have hri := hok.rise _ _ _ hxx.1 hxx.2
   have hkl := (List.getElem?_eq_some_iff.1 hx).1
   have hil := gIdx_len gs x.1 x.2 gs.length
   dsimp only at hI ⊢
   intro Ka6 hKa6
   simp only [alp]
   refine wp_seq' fun K7 hK7 => ?_
   refine wp_reg ?_
   refine ol_alloc 7 z70 rfl fun b7 => ?_
   refine ol_store (id := 7) rfl rfl rfl rfl sz70 rfl rfl (by first | decide | exact Nat.zero_lt_succ _ | simp) ?_
   refine ol_nil (to_k0 (fun _ _ h => h) (hK7 _ _ _ _ _ ?_))
   clear hK7
   refine wp_reg ?_
   refine ol_alloc 8 z70 rfl fun b8 => ?_
   refine ol_store (id := 8) rfl rfl rfl rfl sz70 rfl rfl (by first | decide | exact Nat.zero_lt_succ _ | simp) ?_
   refine ol_nil (to_k0 (fun _ _ h => h) (hKa6 _ _ fun Wb R hbw hBw hn hr => ?_))
   have hS := hS.below hbw
   refine wp_block' ?_
   refine wp_seq' fun K8 hK8 => ?_
   refine wp_reg ?_
   refine ol_alloc 9 z184 rfl fun b9 => ?_
   refine ol_nilrow 3009 186 2 ?_
   refine ol_nil (to_k0 (fun _ _ h => h) (hK8 _ _ _ _ _ ?_))
   clear hK8
   refine wp_seq' fun K9 hK9 => ?_
   refine wp_reg ?_
   refine ol_nilrow 10 3 1 ?_
   refine ol_r (r_assign rfl) rfl ?_
   refine ol_nil (to_k0 (fun _ _ h => h) (hK9 _ _ _ _ _ ?_))
   clear hK9
   refine wp_seq' fun K10 hK10 => ?_
   refine wp_seq' fun K11 hK11 => ?_
   refine wp_reg ?_
   refine ol_r (r_fa (o' := 1) rfl fl52_1 rfl) rfl ?_
   refine ol_r (r_ld (id := 2) rfl rfl rfl sc50) rfl ?_
   refine ol_r (r_len rfl sl50) rfl ?_
   refine ol_r (r_move rfl) rfl ?_
   refine ol_nil (to_k0 (fun _ _ h => h) (hK11 _ _ _ _ _ ?_))
   clear hK11
   refine wp_block' ?_
   apply wp_loopM (σ := Nat × Option Addr × Nat × Nat × Option Addr × Nat) (fun s => s.1 ≤ gn ∧ (gIdx gs x.1 x.2 s.1).length = s.2.2.1) (fun s => [(26, .int .i64 s.1), (10, .slice s.2.1 s.2.2.1 s.2.2.2.1)]) [(4, _), (5, _), (6, _), (7, _), (8, _), (9, _), (24, _), (25, _)] (fun s => [(10, .row s.2.1 s.2.2.1 s.2.2.2.1 (encI.enc (gIdx gs x.1 x.2 s.1)) 3 1), (9, .blk b9 [(0, .slice s.2.2.2.2.1 s.1 s.2.2.2.2.2)] 184), (3009, .row s.2.2.2.2.1 s.1 s.2.2.2.2.2 (encPart.enc ((gs.take s.1).map fun g => partOf g x.1 x.2)) 186 2)]) [(2, _), (3, _), (5, _), (6, _), (7, _), (8, _), (1001, _), (3005, _)] (fun s => gn - s.1) ((0, none, 0, 0, none, 0))
   ·try dsimp only
    exact ⟨Nat.zero_le _, rfl⟩
   ·exact (sub_cons rfl (sub_cons rfl sub_nil))
   ·exact (sub_cons rfl (sub_cons rfl (sub_cons rfl (sub_cons rfl (sub_cons rfl (sub_cons rfl (sub_cons rfl (sub_cons rfl sub_nil))))))))
   ·exact (subH_row rfl (by dsimp only; rfl) (subH_blk rfl (sub_cons rfl sub_nil) (subH_row rfl (by dsimp only; rfl) subH_nil)))
   ·exact (subH_same rfl (subH_same rfl (subH_same rfl (subH_same rfl (subH_same rfl (subH_same rfl (subH_same rfl (subH_same rfl subH_nil))))))))
   ·rintro ⟨j, qa, qn, qc, pa, pc⟩ ⟨hj, hqn⟩
    dsimp only at hj hqn ⊢
    have hql := gIdx_len gs x.1 x.2 j
    intro K12 hK12
    refine wp_seq' fun K13 hK13 => ?_
    refine wp_reg ?_
    refine ol_r (r_lss rfl rfl) rfl ?_
    refine ol_nil (to_k0 (fun _ _ h => h) (hK13 _ _ _ _ _ ?_))
    clear hK13
    refine wp_seq' fun K14 hK14 => ?_
    refine wp_condD rfl (fun hc27 => ?_) (fun hc27 => ?_)
    ·refine wp_skip' (to_k0 (fun _ _ h => h) (hK14 _ _ _ _ _ ?_))
     clear hK14
     refine wp_seq' fun K15 hK15 => ?_
     refine wp_block' ?_
     refine wp_seq' fun K16 hK16 => ?_
     refine wp_reg ?_
     refine ol_r (r_move rfl) rfl ?_
     refine ol_ixr hS rfl rfl sl50 (by omega) rfl fun x29 hx29 => ?_
     try simp only [Int.toNat_natCast] at hx29
     refine ol_r (r_ldw rfl (fun w1 hb1 hs1 hB1 => Rd.loads hS ty179 hx29 hb1)) rfl ?_
     refine ol_alloc 12 z179 rfl fun b12 => ?_
     refine ol_r (r_assign rfl) rfl ?_
     refine ol_store (id := 12) rfl rfl rfl rfl sz179 rfl rfl (by first | decide | exact Nat.zero_lt_succ _ | simp) ?_
     refine ol_nil (to_k0 (fun _ _ h => h) (hK16 _ _ _ _ _ ?_))
     clear hK16
     refine wp_seq' fun K17 hK17 => ?_
     refine wp_reg ?_
     refine ol_r (r_lda (id := 12) (n := 4) rfl rfl rfl ag179) rfl ?_
     refine ol_r (r_lda (id := 7) (n := 7) rfl rfl rfl ag70) rfl ?_
     refine ol_r (r_lda (id := 8) (n := 7) rfl rfl rfl ag70) rfl ?_
     refine ol_call rfl rfl cb101 rfl (fun w1 hb1 hs1 hB1 => Calls.mono (match_crosses x29 x.1 x.2 _ (hseg.g x29 (List.mem_of_getElem? hx29)) hp hq) ?_)
     rintro e w2 ⟨rfl, hb2⟩
     refine After.below rfl hb1 hs1 hB1 hb2 ?_
     clear hb2 hB1 hs1 hb1 w2 w1
     refine ol_r (r_move rfl) rfl ?_
     refine ol_r (r_extract rfl rfl) rfl ?_
     refine ol_r (r_extract rfl rfl) rfl ?_
     refine ol_alloc 13 z186 rfl fun b13 => ?_
     refine ol_store (id := 13) rfl rfl rfl rfl sz186 rfl rfl (by first | decide | exact Nat.zero_lt_succ _ | simp) ?_
     refine ol_r (r_assign rfl) rfl ?_
     refine ol_nil (to_k0 (fun _ _ h => h) (hK17 _ _ _ _ _ ?_))
     clear hK17
     refine wp_seq' fun K18 hK18 => ?_
     refine wp_seq' fun K19 hK19 => ?_
     refine wp_reg ?_
     refine ol_r (r_move rfl) rfl ?_
     refine ol_nil (to_k0 (fun _ _ h => h) (hK19 _ _ _ _ _ ?_))
     clear hK19
     refine wp_cond' rfl (fun hc38 => ?_) (fun hc38 => ?_)
     ·refine wp_reg ?_
      refine ol_r (r_move rfl) rfl ?_
      refine ol_r (r_move rfl) rfl ?_
      refine ol_bs1 41 rfl rfl rw61 rfl rfl rfl fun a41 => ?_
      refine ol_append1 (id := 10) (id2 := 41) rfl rfl rfl rfl rfl rw61 (by omega) rfl fun a42 c42 => ?_
      refine ol_r (r_assign rfl) rfl ?_
      refine ol_nil (to_k0 (fun _ _ h => h) (hK18 _ _ _ _ _ ?_))
      clear hK18
      refine wp_reg ?_
      refine ol_r (r_ld (id := 9) rfl rfl rfl sc184) rfl ?_
      refine ol_r (r_lda (id := 13) (n := 2) rfl rfl rfl ag186) rfl ?_
      refine ol_bs1 45 rfl rfl rw184 rfl rfl rfl fun a45 => ?_
      refine ol_append1 (id := 3009) (id2 := 45) rfl rfl rfl rfl rfl rw184 (by omega) rfl fun a46 c46 => ?_
      refine ol_store (id := 9) rfl rfl rfl rfl sz184 rfl rfl (by first | decide | exact Nat.zero_lt_succ _ | simp) ?_
      refine ol_nil (to_k0 (fun _ _ h => h) (hK15 _ _ _ _ _ ?_))
      clear hK15
      refine wp_reg ?_
      refine ol_r (r_add rfl rfl (by omega)) rfl ?_
      refine ol_r (r_move rfl) rfl ?_
      refine ol_nil (to_k0 (fun _ _ h => h) (hK12 ((j + 1, _, _, _, _, _)) _ _ ?_ ?_ (sub_cons rfl (sub_cons rfl sub_nil)) (sub_cons rfl (sub_cons rfl (sub_cons rfl (sub_cons rfl (sub_cons rfl (sub_cons rfl (sub_cons rfl (sub_cons rfl sub_nil)))))))) (by exact (subH_row rfl (by first | (dsimp only; first | (rw [gIdx_yes hx29 hc38, encI_snoc]) | (rw [gIdx_no hx29 hc38]) | (rw [take_succ_get hx29, List.map_append, Enc.enc_append]; rfl); done) | (first | (rw [gIdx_yes hx29 hc38, encI_snoc]) | (rw [gIdx_no hx29 hc38]) | (rw [take_succ_get hx29, List.map_append, Enc.enc_append]; rfl); done) | (dsimp only; done)) (subH_blk rfl (sub_cons rfl sub_nil) (subH_row rfl (by dsimp only; first | (rw [gIdx_yes hx29 hc38, encI_snoc]) | (rw [gIdx_no hx29 hc38]) | (rw [take_succ_get hx29, List.map_append, Enc.enc_append]; rfl)) subH_nil)))) (subH_same rfl (subH_same rfl (subH_same rfl (subH_same rfl (subH_same rfl (subH_same rfl (subH_same rfl (subH_same rfl subH_nil))))))))))
      ·try dsimp only
       first
         | exact ⟨by omega, by rw [gIdx_yes hx29 hc38, List.length_append, hqn]; rfl⟩
      ·try dsimp only
       omega
     ·refine wp_skip' (to_k0 (fun _ _ h => h) (hK18 _ _ _ _ _ ?_))
      clear hK18
      refine wp_reg ?_
      refine ol_r (r_ld (id := 9) rfl rfl rfl sc184) rfl ?_
      refine ol_r (r_lda (id := 13) (n := 2) rfl rfl rfl ag186) rfl ?_
      refine ol_bs1 45 rfl rfl rw184 rfl rfl rfl fun a45 => ?_
      refine ol_append1 (id := 3009) (id2 := 45) rfl rfl rfl rfl rfl rw184 (by omega) rfl fun a46 c46 => ?_
      refine ol_store (id := 9) rfl rfl rfl rfl sz184 rfl rfl (by first | decide | exact Nat.zero_lt_succ _ | simp) ?_
      refine ol_nil (to_k0 (fun _ _ h => h) (hK15 _ _ _ _ _ ?_))
      clear hK15
      refine wp_reg ?_
      refine ol_r (r_add rfl rfl (by omega)) rfl ?_
      refine ol_r (r_move rfl) rfl ?_
      refine ol_nil (to_k0 (fun _ _ h => h) (hK12 ((j + 1, _, _, _, _, _)) _ _ ?_ ?_ (sub_cons rfl (sub_cons rfl sub_nil)) (sub_cons rfl (sub_cons rfl (sub_cons rfl (sub_cons rfl (sub_cons rfl (sub_cons rfl (sub_cons rfl (sub_cons rfl sub_nil)))))))) (by exact (subH_row rfl (by first | (dsimp only; first | (rw [gIdx_yes hx29 hc38, encI_snoc]) | (rw [gIdx_no hx29 hc38]) | (rw [take_succ_get hx29, List.map_append, Enc.enc_append]; rfl); done) | (first | (rw [gIdx_yes hx29 hc38, encI_snoc]) | (rw [gIdx_no hx29 hc38]) | (rw [take_succ_get hx29, List.map_append, Enc.enc_append]; rfl); done) | (dsimp only; done)) (subH_blk rfl (sub_cons rfl sub_nil) (subH_row rfl (by dsimp only; first | (rw [gIdx_yes hx29 hc38, encI_snoc]) | (rw [gIdx_no hx29 hc38]) | (rw [take_succ_get hx29, List.map_append, Enc.enc_append]; rfl)) subH_nil)))) (subH_same rfl (subH_same rfl (subH_same rfl (subH_same rfl (subH_same rfl (subH_same rfl (subH_same rfl (subH_same rfl subH_nil))))))))))
      ·try dsimp only
       first
         | exact ⟨by omega, by rw [gIdx_no hx29 hc38]; exact hqn⟩
      ·try dsimp only
       omega
    ·refine wp_exit' (to_k0 (fun _ _ h => h) (hK10 _ _ _ _ _ ?_))
     clear hK10
     refine wp_seq' fun K20 hK20 => ?_
     refine wp_reg ?_
     obtain rfl : j = gs.length := by omega
     rw [List.take_of_length_le (Nat.le_refl _)]
     obtain ⟨f, hf, hfx⟩ := tab_of (gIdx gs x.1 x.2 gs.length)
     rw [hqn] at hf
     have hfu : ∀ i k, i < k → k < qn → f i < f k := fun i k h1 h2 => by
       have h3 := gIdx_up gs x.1 x.2 gs.length
       rw [List.pairwise_iff_getElem] at h3
       have h4 := h3 i k (by omega) (by omega) h1
       rw [hfx i _ (List.getElem?_eq_getElem (by omega)), hfx k _ (List.getElem?_eq_getElem (by omega))]
       exact h4
     have hfg : ∀ i, i < qn → GoodI gs x.1 x.2 (f i) := fun i h1 => by
       have h2 : f i ∈ gIdx gs x.1 x.2 gs.length := by rw [hf]; exact tab_mem.2 ⟨i, h1, rfl⟩
       obtain ⟨j, g, e1, e2, e3, e4⟩ := gIdx_mem h2
       exact ⟨j, g, e1, e3, e4⟩
     have hol : (gOrd gs x.1 x.2 gs.length).length = qn := by rw [gOrd_len]; exact hqn
     refine ol_r (r_move rfl) rfl ?_
     refine ol_r (r_func rfl) rfl ?_
     refine ol_call rfl rfl cb102 rfl (fun w1 hb1 hs1 hB1 => ?_)
     refine Calls.mono (sortStable_w (cfG gs x.1 x.2) (GoodI gs x.1 x.2) w.heap.size b9 _ _ _ _ _ _ _ _ _ _ _ _ _ (by rw [cfG_lt]; exact ltG_swo _ _ _) (by omega) (fun w3 i k gi gk hs3 hB3 => crossings_cmp gs x.1 x.2 _ _ _ _ _ w3 i k hseg.g hp hq (by omega) rfl gi gk hs3 hB3) f _ hB1 hfu hfg (hs1.kle [(10, 5000), (9, 5001), (3009, 5002), (2, 5003), (3, 5004), (5, 5005), (6, 5006), (7, 5007), (8, 5008), (3005, 5009), (1001, 5010)] (kle_cons rfl (row_le (by rw [← hf])) (kle_cons rfl (Ent.le_refl _) (kle_cons rfl (Ent.le_refl _) (kle_cons rfl (Ent.le_refl _) (kle_cons rfl (Ent.le_refl _) (kle_cons rfl (Ent.le_refl _) (kle_cons rfl (Ent.le_refl _) (kle_cons rfl (Ent.le_refl _) (kle_cons rfl (Ent.le_refl _) (kle_cons rfl (Ent.le_refl _) (kle_cons rfl (Ent.le_refl _) kle_nil))))))))))) (by decide))) ?_
     rintro e w2 ⟨g, rfl, hb2, hs2, hB2, hk2, hg1, hg2⟩
     have hg3 := gOrd_of hf (by rw [← cfG_lt]; exact hg1) hg2
     rw [hg3] at hs2
     refine After.sat rfl hb1 hb2 (hs2.kle [(5000, 10), (5001, 9), (5002, 3009), (5003, 2), (5004, 3), (5005, 5), (5006, 6), (5007, 7), (5008, 8), (5009, 3005), (5010, 1001)] (kle_cons rfl (Ent.le_refl _) (kle_cons rfl (Ent.le_refl _) (kle_cons rfl (Ent.le_refl _) (kle_cons rfl (Ent.le_refl _) (kle_cons rfl (Ent.le_refl _) (kle_cons rfl (Ent.le_refl _) (kle_cons rfl (Ent.le_refl _) (kle_cons rfl (Ent.le_refl _) (kle_cons rfl (Ent.le_refl _) (kle_cons rfl (Ent.le_refl _) (kle_cons rfl (Ent.le_refl _) kle_nil))))))))))) (by decide)) hB2 (hk2.imp fun _ h => h.elim) ?_
     clear hg3 hg1 hg2 hk2 hs2 hb2 hB2 hB1 hs1 hb1 w2 w1
     refine ol_nil (to_k0 (fun _ _ h => h) (hK20 _ _ _ _ _ ?_))
     clear hK20
     refine wp_seq' fun K21 hK21 => ?_
     refine wp_seq' fun K22 hK22 => ?_
     refine wp_reg ?_
     refine ol_r (r_move rfl) rfl ?_
     refine ol_r (r_len rfl sl61) rfl ?_
     refine ol_r (r_move rfl) rfl ?_
     refine ol_nil (to_k0 (fun _ _ h => h) (hK22 _ _ _ _ _ ?_))
     clear hK22
     refine wp_block' ?_
     apply wp_loopM (σ := Nat × Option Addr × Nat × Nat) (fun s => s.1 ≤ qn ∧ s.2.2.1 = on + s.1) (fun s => [(53, .int .i64 s.1)]) [(4, _), (5, _), (6, _), (7, _), (8, _), (9, _), (51, _), (52, _)] (fun s => [(5, .blk b5 [(0, .slice s.2.1 s.2.2.1 s.2.2.2)] 134), (3005, .row s.2.1 s.2.2.1 s.2.2.2 (encCr.enc (crossS gs (stepsL A.ss) k ++ ((gOrd gs x.1 x.2 gs.length).take s.1).map (crossOf gs x.1 x.2 k))) 137 3)]) [(2, _), (3, _), (6, _), (7, _), (8, _), (9, _), (10, _), (1001, _), (3009, _)] (fun s => qn - s.1) ((0, _, _, _))
     ·try dsimp only
      exact ⟨Nat.zero_le _, rfl⟩
     ·exact (sub_cons rfl sub_nil)
     ·exact (sub_cons rfl (sub_cons rfl (sub_cons rfl (sub_cons rfl (sub_cons rfl (sub_cons rfl (sub_cons rfl (sub_cons rfl sub_nil))))))))
     ·exact (subH_blk rfl (sub_cons rfl sub_nil) (subH_row rfl (by dsimp only; (rw [List.take_zero]; simp)) subH_nil))
     ·exact (subH_same rfl (subH_same rfl (subH_same rfl (subH_same rfl (subH_same rfl (subH_same rfl (subH_same rfl (subH_same rfl (subH_same rfl subH_nil)))))))))
     ·rintro ⟨t, oa2, on2, oc2⟩ ⟨ht, hon⟩
      dsimp only at ht hon ⊢
      intro K23 hK23
      refine wp_seq' fun K24 hK24 => ?_
      refine wp_reg ?_
      refine ol_r (r_lss rfl rfl) rfl ?_
      refine ol_nil (to_k0 (fun _ _ h => h) (hK24 _ _ _ _ _ ?_))
      clear hK24
      refine wp_seq' fun K25 hK25 => ?_
      refine wp_condD rfl (fun hc54 => ?_) (fun hc54 => ?_)
      ·refine wp_skip' (to_k0 (fun _ _ h => h) (hK25 _ _ _ _ _ ?_))
       clear hK25
       refine wp_seq' fun K26 hK26 => ?_
       refine wp_block' ?_
       refine wp_seq' fun K27 hK27 => ?_
       refine wp_reg ?_
       refine ol_ixo (id := 10) encI _ rfl rfl rfl rfl sl61 (by omega) rfl fun x55 hx55 => ?_
       try simp only [Int.toNat_natCast] at hx55
       try simp only [Int.toNat_natCast] at hx55
       refine ol_r (r_ldw rfl (fun w1 hb1 hs1 hB1 => show Loads _ _ _ _ (.int .i64 x55) from ld_own (id := 10) hs1 rfl rfl ty3 hx55)) rfl ?_
       refine ol_r (r_assign rfl) rfl ?_
       refine ol_nil (to_k0 (fun _ _ h => h) (hK27 _ _ _ _ _ ?_))
       clear hK27
       refine wp_seq' fun K28 hK28 => ?_
       refine wp_regq (by kernel_rfl) (by kernel_rfl) ?_
       obtain ⟨i, g, rfl, hi, hgi, hcr⟩ := gIdx_mem (gOrd_mem.1 (List.mem_of_getElem? hx55))
       obtain ⟨hpk, hnd, hpe⟩ := part_ok (hseg.g g (List.mem_of_getElem? hgi)) hp hq hcr
       have hsc := scale_part hpk hnd (d := x.2.at_ - x.1.at_) (by omega)
       obtain ⟨⟨hpk1, hpk2⟩, hpk3, hpk4⟩ := hpk
       have hml : (gs.map fun g => partOf g x.1 x.2).length = gs.length := List.length_map _
       refine ql_r (r_ld (id := 9) rfl rfl rfl sc184) rfl ?_
       refine ql_r (r_move rfl) rfl ?_
       refine ql_ixo (id := 3009) encPart _ rfl rfl rfl rfl sl184 (by omega) (by omega) rfl fun x60 hx60 => ?_
       try simp only [Int.toNat_natCast] at hx60
       try simp only [Int.toNat_natCast] at hx60
       have h60 : x60 = partOf g x.1 x.2 := by
         rw [List.getElem?_map, hgi] at hx60
         exact (Option.some.inj hx60).symm
       refine ql_r (r_faO (id := 3009) rfl rfl rfl hx60 fl186_0) rfl ?_
       refine ql_r (r_ldw rfl (fun w1 hb1 hs1 hB1 => ld_ownF (id := 3009) (o := 0) hs1 rfl rfl sc3 hx60 rfl)) rfl ?_
       refine ql_r (r_fa (o' := 0) rfl fl70_0 rfl) rfl ?_
       refine ql_r (r_ld (id := 8) rfl rfl rfl sc3) rfl ?_
       refine ql_r (r_fa (o' := 0) rfl fl70_0 rfl) rfl ?_
       refine ql_r (r_ld (id := 7) rfl rfl rfl sc3) rfl ?_
       refine ql_r (r_sub rfl rfl (by omega)) rfl ?_
       refine ql_r (r_mul rfl rfl (by omega)) rfl ?_
       refine ql_r (r_ld (id := 9) rfl rfl rfl sc184) rfl ?_
       refine ql_r (r_move rfl) rfl ?_
       refine ql_ixo (id := 3009) encPart _ rfl rfl rfl rfl sl184 (by omega) (by omega) rfl fun x71 hx71 => ?_
       try simp only [Int.toNat_natCast] at hx71
       try simp only [Int.toNat_natCast] at hx71
       refine ql_r (r_faO (id := 3009) rfl rfl rfl hx71 fl186_1) rfl ?_
       refine ql_r (r_ldw rfl (fun w1 hb1 hs1 hB1 => ld_ownF (id := 3009) (o := 1) hs1 rfl rfl sc3 hx71 rfl)) rfl ?_
       have h71 : x71 = partOf g x.1 x.2 := by
         rw [List.getElem?_map, hgi] at hx71
         exact (Option.some.inj hx71).symm
       rw [h60, h71]
       refine ql_call rfl rfl cb64 rfl (fun w1 hb1 hs1 hB1 => quant_ScaleD _ _ _ _ (by omega) (by omega) (by omega) (by omega)) ?_
       refine ql_r (r_move rfl) rfl ?_
       refine ql_r (r_extract rfl rfl) rfl ?_
       refine ql_r (r_extract rfl rfl) rfl ?_
       refine ql_r (r_assign rfl) rfl ?_
       refine ql_r (r_assign rfl) rfl ?_
       refine ql_nil (to_k0 (fun _ _ h => h) (hK28 _ _ _ _ _ ?_))
       clear hK28
       refine wp_reg ?_
       refine ol_r (r_ld (id := 5) rfl rfl rfl sc134) rfl ?_
       refine ol_r (r_move rfl) rfl ?_
       refine ol_r (r_ld (id := 6) rfl rfl rfl sc3) rfl ?_
       refine ol_r (r_fa (o' := 0) rfl fl70_0 rfl) rfl ?_
       refine ol_r (r_ld (id := 7) rfl rfl rfl sc3) rfl ?_
       refine ol_r (r_mul rfl rfl (by omega)) rfl ?_
       refine ol_r (r_move rfl) rfl ?_
       refine ol_r (r_add rfl rfl (by omega)) rfl ?_
       refine ol_r (r_build rfl (fun _ => bd137_0_1_2 _ _ _ _)) rfl ?_
       refine ol_bs1 86 rfl rfl rw134 rfl rfl rfl fun a86 => ?_
       refine ol_append1 (id := 3005) (id2 := 86) rfl rfl rfl rfl rfl rw134 (by omega) rfl fun a87 c87 => ?_
       refine ol_store (id := 5) rfl rfl rfl rfl sz134 rfl rfl (by first | decide | exact Nat.zero_lt_succ _ | simp) ?_
       refine ol_nil (to_k0 (fun _ _ h => h) (hK26 _ _ _ _ _ ?_))
       clear hK26
       refine wp_reg ?_
       refine ol_r (r_add rfl rfl (by omega)) rfl ?_
       refine ol_r (r_move rfl) rfl ?_
       refine ol_nil (to_k0 (fun _ _ h => h) (hK23 ((t + 1, _, _, _)) _ _ ?_ ?_ (sub_cons rfl sub_nil) (sub_cons rfl (sub_cons rfl (sub_cons rfl (sub_cons rfl (sub_cons rfl (sub_cons rfl (sub_cons rfl (sub_cons rfl sub_nil)))))))) (by exact (subH_blk rfl (sub_cons rfl sub_nil) (subH_row rfl (by dsimp only; (rw [take_succ_get hx55, List.map_append, ← List.append_assoc, Enc.enc_append, List.map_cons, List.map_nil, crossOf_eq hgi]; rfl)) subH_nil))) (subH_same rfl (subH_same rfl (subH_same rfl (subH_same rfl (subH_same rfl (subH_same rfl (subH_same rfl (subH_same rfl (subH_same rfl subH_nil)))))))))))
       ·try dsimp only
        exact ⟨by omega, by omega⟩
       ·try dsimp only
        omega
      ·refine wp_exit' (to_k0 (fun _ _ h => h) (hK21 _ _ _ _ _ ?_))
       clear hK21
       refine wp_reg ?_
       refine ol_r (r_ld (id := 6) rfl rfl rfl sc3) rfl ?_
       refine ol_r (r_add rfl rfl (by omega)) rfl ?_
       refine ol_store (id := 6) rfl rfl rfl rfl sz3 rfl rfl (by first | decide | exact Nat.zero_lt_succ _ | simp) ?_
       refine ol_nil (QP.of (hn ((_, _, _)) _ _ ?_ (by exact (subH_blk rfl (sub_cons rfl sub_nil) (subH_blk rfl (sub_cons rfl sub_nil) (subH_row rfl (by (rw [crossS_succ hx, List.take_of_length_le (show (gOrd gs x.1 x.2 gs.length).length ≤ t by rw [gOrd_len]; omega)])) subH_nil)))) (subH_same rfl (subH_same rfl (subH_same rfl subH_nil)))) (fun _ _ h => h))
       try dsimp only
       omega
  ·rintro s dd hI
   refine (to_k0 (fun _ _ h => h) (hK4 _ _ _ _ _ ?_))
   clear hK4
   refine wp_seq' fun K29 hK29 => ?_
   refine wp_reg ?_
   refine ol_r (r_ld (id := 5) rfl rfl rfl sc134) rfl ?_
   refine ol_r (r_assign rfl) rfl ?_
   refine ol_nil (to_k0 (fun _ _ h => h) (hK29 _ _ _ _ _ ?_))
   clear hK29
   refine hQ.ret (rvs1 (rv_t rfl)) (fun _ _ h => h) fun w hb hs hB hkd => ?_
   exact ⟨_, _, _, rfl, hb, hs.ok 3005 _ rfl⟩
  ·exact fun t dd hI => hI.elim
theorem sw_map {α : Type} (h : Int → α) (L : List α) {n i j : Nat} {G : Nat → Int} {x y : α} {u v : Int} (hi : i < n) (hj : j < n) (hu : u.toNat = L.length + i) (hv : v.toNat = L.length + j) (hx : ∃ k, k = L.length + j ∧ (L ++ (tab n G).map h)[k]? = some x) (hy : ∃ k, k = L.length + i ∧ (L ++ (tab n G).map h)[k]? = some y) :
    ((L ++ (tab n G).map h).set u.toNat x).set v.toNat y = L ++ (tab n (sw2 G i j)).map h := by
  obtain ⟨_, rfl, hx⟩ := hx
  obtain ⟨_, rfl, hy⟩ := hy
  rw [List.getElem?_append_right (Nat.le_add_right _ _), Nat.add_sub_cancel_left, List.getElem?_map, tab_at hj] at hx
  rw [List.getElem?_append_right (Nat.le_add_right _ _), Nat.add_sub_cancel_left, List.getElem?_map, tab_at hi] at hy
  cases hx; cases hy
  rw [hu, hv, List.set_append_right _ _ (Nat.le_add_right _ _), List.set_append_right _ _ (Nat.le_add_right _ _), Nat.add_sub_cancel_left, Nat.add_sub_cancel_left, ← List.map_set, ← List.map_set, tab_sw2 G hi hj]
theorem ins_last {F : Nat → Int} {n : Nat} {x : Int} {h : List Int} (hl : tab n F = h) : tab (n + 1) (fun i => if i < n then F i else x) = h ++ [x] := by rw [← hl, tab_snoc]
def crossR (nm : ByteArray) (gs : List GateR) (d : ActD) : List CrossR × Int := if orL [chkSeg nm gs, chkA d] ≠ 0 then ([], orL [chkSeg nm gs, chkA d]) else (crossS gs (stepsL d.ss) (stepsL d.ss).length, 0)
theorem or_both {nm : ByteArray} {gs : List GateR} {A : ActV} (h : ¬orL [chkSeg nm gs, chkA A.d] ≠ 0) : SegOk nm gs ∧ SmpOk A.start A.ss := by
  have h0 := Decidable.not_not.1 h
  unfold orL orL orL at h0
  by_cases h1 : chkSeg nm gs ≠ 0
  · rw [if_pos h1] at h0; exact absurd h0 h1
  · rw [if_neg h1] at h0
    refine ⟨segOk (Decidable.not_not.1 h1), ?_⟩
    by_cases h2 : chkA A.d ≠ 0
    · rw [if_pos h2] at h0; exact absurd h0 h2
    · exact (goodA (Decidable.not_not.1 h2)).smp
theorem pair_tab {lt : Int → Int → Bool} {n : Nat} {f : Nat → Int} (h : (tab n f).Pairwise (RR lt)) : SoR lt f 0 n := by
  intro i j _ hij hj
  rw [List.pairwise_iff_getElem] at h
  have h2 := h i j (by rw [tab_len]; omega) (by rw [tab_len]; omega) hij
  have e1 := tab_at (f := f) (show i < n by omega)
  have e2 := tab_at (f := f) hj
  rw [List.getElem?_eq_getElem (by rw [tab_len]; omega)] at e1 e2
  rw [Option.some.inj e1, Option.some.inj e2] at h2
  exact h2
end Go.Proofs.Ytfbmkepogcimlaa

/-
  What harrierlaw5 tells, from the crossings in general; MatchCrossingsMatchSpec.
-/

namespace Go.Proofs.Ytfbmkepogcimlaa
open Go Go.RowKit Hx
set_option linter.unusedVariables false
set_option linter.unusedSimpArgs false
set_option maxRecDepth 8000
theorem told_crossS : crossS toldG (stepsL toldS) (stepsL toldS).length = [⟨0, 0, 5000⟩] := by kernel_rfl
theorem told_R : crossR ⟨#[115]⟩ toldG toldD = ([⟨0, 0, 5000⟩], 0) := by
  unfold crossR
  rw [if_neg (by decide +kernel)]
  exact congrArg (fun l => (l, (0 : Int))) told_crossS
end Go.Proofs.Ytfbmkepogcimlaa

/-
  Rows of rows: inner rows stand at the end of the list of blocks, by number.
-/


namespace Go.Proofs.Ytfbmkepogcimlaa.Hx
open Go Go.RowKit
set_option linter.unusedVariables false
set_option linter.unusedSimpArgs false
section
variable {P : Program} {N : Fr} {B : Nat} {w0 : World} {Q : Exit → Act → World → Prop} {al : AL} {H : HL} {ops rest : List Oper}
theorem wp_loopT {c : Code} {σ : Type} (I : σ → Prop) (M : σ → AL) (L : AL) (G : σ → HL) (G0 : HL) (T : σ → HL) (μ : σ → Nat) (s0 : σ) (h0 : I s0) (hs : Sub (M s0) al) (hL : Sub L al) (hh : SubH (G s0) H) (hh0 : SubH G0 H) (ht : SubH (T s0) H)
    (round : ∀ s, I s → ∀ K : Act → World → Prop, (∀ s' al' H', I s' → μ s' < μ s → Sub (M s') al' → Sub L al' → SubH (G s') H' → SubH G0 H' → SubH (T s') H' → KP N B w0 K al' H') → WP P N B w0 c (Exit.then K Q) (M s ++ L) (G s ++ (G0 ++ T s))) :
    WP P N B w0 (.loop c) Q al H :=
  wp_loop' I (fun s => M s ++ L) (fun s => G s ++ (G0 ++ T s)) μ s0 h0 (sub_app hs hL) (subH_app hh (subH_app hh0 ht)) (fun s hI K hK => round s hI K fun s' al' H' h1 h2 h3 h4 h5 h6 h7 => (hK s' h1 h2).sub (sub_app h3 h4) (subH_app h5 (subH_app h6 h7)))
theorem Sat.rekey {w : World} (h : Sat B w H) {i j : Nat} {e : Ent} (hi : look H i = some e) (hij : i ≠ j) : Sat B w ((j, e) :: (i, .gone) :: H) := by
  have h2 := h.forget i
  refine h2.set j (h.ok i e hi) (fun _ _ _ => rfl) fun k f hk hf b hb hfb => ?_
  by_cases hki : k = i
  · subst hki; rw [look_cons_eq] at hf; cases hf; simp [Ent.own] at hfb
  · rw [look_cons_ne _ _ (Ne.symm hki)] at hf
    exact h.apart i k e f (Ne.symm hki) hi hf b hb hfb
theorem ol_rekey (i j : Nat) {e : Ent} (hi : look H i = some e) (hij : i ≠ j) (k : OL P N B w0 ops rest Q al ((j, e) :: (i, .gone) :: H)) : OL P N B w0 ops rest Q al H :=
  fun a w hst => k a w ⟨hst.regs, hst.below, hst.sat.rekey hi hij, hst.base, hst.kd, hst.marks⟩
end
abbrev Sl := Option Addr × Nat × Nat
/-- A struct of one slice, as an element. -/
def encSl : Enc Sl := { size := 1, cells := fun x => [.slice x.1 x.2.1 x.2.2], val := fun x => .agg #[.slice x.1 x.2.1 x.2.2], len := fun _ => rfl, ones := fun _ u h => by simp at h; subst h; rfl, pos := by decide, vc := fun _ => rfl }
def rowOf (T : TypeId) (x : Sl × List Int) : Ent := .row x.1.1 x.1.2.1 x.1.2.2 (encI.enc x.2) T 1
def innH (T : TypeId) (base : Nat) : List (Sl × List Int) → HL
  | [] => []
  | x :: r => (base, rowOf T x) :: innH T (base + 1) r
theorem look_inn {T : TypeId} : ∀ {L : List (Sl × List Int)} {base j : Nat} {x : Sl × List Int}, L[j]? = some x → look (innH T base L) (base + j) = some (rowOf T x)
  | [], base, j, x, h => by simp at h
  | y :: r, base, 0, x, h => by cases h; exact look_cons_eq _ _ _
  | y :: r, base, j + 1, x, h => by
    rw [innH, look_cons_ne _ _ (by omega), show base + (j + 1) = base + 1 + j by omega]
    exact look_inn (L := r) h
theorem subH_inn {T : TypeId} {H' : HL} : ∀ {L : List (Sl × List Int)} {base : Nat}, (∀ j x, L[j]? = some x → look H' (base + j) = some (rowOf T x)) → SubH (innH T base L) H'
  | [], _, _ => trivial
  | y :: r, base, h => ⟨⟨_, h 0 y rfl, Ent.le_refl _⟩, subH_inn (L := r) fun j x hj => by rw [show base + 1 + j = base + (j + 1) by omega]; exact h (j + 1) x hj⟩
theorem subH_snoc {T : TypeId} {H' : HL} {L : List (Sl × List Int)} {base : Nat} {y : Sl × List Int} (h1 : ∀ j x, L[j]? = some x → look H' (base + j) = some (rowOf T x)) (h2 : look H' (base + L.length) = some (rowOf T y)) : SubH (innH T base (L ++ [y])) H' :=
  subH_inn fun j x hj => by
    by_cases hlt : j < L.length
    · rw [List.getElem?_append_left hlt] at hj; exact h1 j x hj
    · rw [List.getElem?_append_right (by omega)] at hj
      have hj0 : j - L.length = 0 := by
        apply Decidable.byContradiction; intro h
        rw [List.getElem?_eq_none (by simp; omega)] at hj; cases hj
      rw [hj0] at hj; cases hj
      rw [show j = L.length by omega]; exact h2
theorem look_inn_none {T : TypeId} : ∀ {L : List (Sl × List Int)} {base i : Nat}, i < base ∨ base + L.length ≤ i → look (innH T base L) i = none
  | [], _, _, _ => rfl
  | y :: r, base, i, h => by
    rw [List.length_cons] at h
    rw [innH, look_cons_ne _ _ (by omega)]
    exact look_inn_none (L := r) (by omega)
theorem look_inn_app {T : TypeId} {L : List (Sl × List Int)} {base j : Nat} {x : Sl × List Int} {R : HL} (h : L[j]? = some x) : look (innH T base L ++ R) (base + j) = some (rowOf T x) := by
  rw [look_append, look_inn h]
theorem look_inn_skip {T : TypeId} {L : List (Sl × List Int)} {base i : Nat} {R : HL} (h : i < base ∨ base + L.length ≤ i) : look (innH T base L ++ R) i = look R i := by
  rw [look_append, look_inn_none h]
/-- A list of rows that reads so. -/
structure RdE (C : Nat) (w : World) (a : Option Addr) (n c : Nat) (L : List (Sl × List Int)) : Prop where
  out : Rd encSl C w a n c (L.map (·.1))
  inn : ∀ (j : Nat) (x : Sl × List Int), L[j]? = some x → Rd encI C w x.1.1 x.1.2.1 x.1.2.2 x.2
theorem RdE.at {B : Nat} {w0 w : World} {a : Option Addr} {n c : Nat} {L : List (Sl × List Int)} (h : RdE B w0 a n c L) (hb : Below B w0 w) (hB : B ≤ w.heap.size) : RdE w.heap.size w a n c L :=
  ⟨h.out.at hb hB, fun j x hj => (h.inn j x hj).at hb hB⟩
theorem RdE.len {C : Nat} {w : World} {a : Option Addr} {n c : Nat} {L : List (Sl × List Int)} (h : RdE C w a n c L) : L.length = n := by
  have := h.out.len; rwa [List.length_map] at this
theorem Sat.rdE {B : Nat} {w : World} {H : HL} {id base n c : Nat} {a : Option Addr} {L : List (Sl × List Int)} {T U : TypeId} (h : Sat B w H) (ho : look H id = some (.row a n c (encSl.enc (L.map (·.1))) T 1)) (hi : ∀ (j : Nat) (x : Sl × List Int), L[j]? = some x → look H (base + j) = some (rowOf U x)) : RdE w.heap.size w a n c L :=
  ⟨h.rd ho rfl, fun j x hj => h.rd (hi j x hj) rfl⟩
/-- A list of rows in memory of its own. -/
def OwnE (B : Nat) (w : World) (T U : TypeId) (id base : Nat) (a : Option Addr) (n c : Nat) (L : List (Sl × List Int)) : Prop := Sat B w ((id, .row a n c (encSl.enc (L.map (·.1))) T 1) :: innH U base L)
theorem OwnE.rd {B : Nat} {w : World} {T U : TypeId} {id base : Nat} {a : Option Addr} {n c : Nat} {L : List (Sl × List Int)} (h : OwnE B w T U id base a n c L) (hid : id < base) : RdE w.heap.size w a n c L :=
  Sat.rdE h (id := id) (base := base) (U := U) (look_cons_eq _ _ _) fun j x hj => (look_cons_ne _ _ (by omega)).trans (look_inn hj)
theorem Sat.cong {B : Nat} {w : World} {H H' : HL} (h : Sat B w H) (he : ∀ i, look H' i = look H i) : Sat B w H' :=
  ⟨fun i e hi => h.ok i e (by rw [← he]; exact hi), fun i j e f hij hi hj => h.apart i j e f hij (by rw [← he]; exact hi) (by rw [← he]; exact hj)⟩
theorem ol_rekeyT {P : Program} {N : Fr} {B : Nat} {w0 : World} {Q : Exit → Act → World → Prop} {al : AL} {H : HL} {ops rest : List Oper} (i j : Nat) {e : Ent} (hi : look H i = some e) (hij : i ≠ j) (hj : look H j = none) (k : OL P N B w0 ops rest Q al ((i, .gone) :: (H ++ [(j, e)]))) : OL P N B w0 ops rest Q al H := by
  intro a w hst
  refine k a w ⟨hst.regs, hst.below, (hst.sat.rekey hi hij).cong fun n => ?_, hst.base, hst.kd, hst.marks⟩
  by_cases h1 : n = i
  · subst h1; rw [look_cons_eq, look_cons_ne _ _ (Ne.symm hij), look_cons_eq]
  · rw [look_cons_ne _ _ (Ne.symm h1), look_append]
    by_cases h2 : n = j
    · subst h2; rw [hj, look_cons_eq, look_cons_eq]
    · rw [look_cons_ne _ _ (Ne.symm h2), look_cons_ne _ _ (Ne.symm h2), look_cons_ne _ _ (Ne.symm h1)]
      cases look H n <;> rfl
/-- Other numbers for a list of rows. -/
theorem OwnE.num {B : Nat} {w : World} {T U : TypeId} {id base : Nat} {a : Option Addr} {n c : Nat} {L : List (Sl × List Int)} (h : OwnE B w T U id base a n c L) (hid : id < base) (id' base' : Nat) (hid' : id' < base') : OwnE B w T U id' base' a n c L := by
  have key : ∀ i e, look ((id', Ent.row a n c (encSl.enc (L.map (·.1))) T 1) :: innH U base' L) i = some e → (i = id' ∧ look ((id, Ent.row a n c (encSl.enc (L.map (·.1))) T 1) :: innH U base L) id = some e) ∨ (∃ j, i = base' + j ∧ j < L.length ∧ look ((id, Ent.row a n c (encSl.enc (L.map (·.1))) T 1) :: innH U base L) (base + j) = some e) := by
    intro i e hi
    by_cases h1 : i = id'
    · subst h1; rw [look_cons_eq] at hi; exact .inl ⟨rfl, by rw [look_cons_eq]; exact hi⟩
    · rw [look_cons_ne _ _ (Ne.symm h1)] at hi
      by_cases h2 : i < base' ∨ base' + L.length ≤ i
      · rw [look_inn_none h2] at hi; cases hi
      · obtain ⟨j, rfl⟩ : ∃ j, i = base' + j := ⟨i - base', by omega⟩
        have hx := List.getElem?_eq_getElem (l := L) (i := j) (by omega)
        rw [look_inn hx] at hi
        exact .inr ⟨j, rfl, by omega, by rw [look_cons_ne _ _ (by omega), look_inn hx]; exact hi⟩
  refine ⟨fun i e hi => ?_, fun i k e f hik hi hk => ?_⟩
  · rcases key i e hi with ⟨_, h2⟩ | ⟨j, _, _, h2⟩ <;> exact h.ok _ _ h2
  · rcases key i e hi with ⟨h1, h2⟩ | ⟨j, h1, _, h2⟩ <;> rcases key k f hk with ⟨h3, h4⟩ | ⟨j', h3, _, h4⟩
    · omega
    · exact h.apart _ _ e f (by omega) h2 h4
    · exact h.apart _ _ e f (by omega) h2 h4
    · exact h.apart _ _ e f (by omega) h2 h4
/-- A list of rows that comes back: its inner rows stand behind all. -/
theorem After.moreE {P : Program} {N : Fr} {B : Nat} {w0 : World} {Q : Exit → Act → World → Prop} {al : AL} {H : HL} {ops rest : List Oper} {e : Ending} {w w' : World} {v : Value} {d : Nat} {T U : TypeId} {id base : Nat} {a : Option Addr} {n c : Nat} {L : List (Sl × List Int)} (he : e = .returned v) (hw : Below B w0 w) (hs : Sat B w H) (hb : B ≤ w.heap.size) (hbl : Below w.heap.size w w')
    (h' : OwnE w.heap.size w' T U id base a n c L) (hid : id < base) (hH : ∀ i, base ≤ i → i < base + L.length → look H i = none) (k : OL P N B w0 ops rest Q ((d, v) :: al) ((id, .row a n c (encSl.enc (L.map (·.1))) T 1) :: (H ++ innH U base L))) : After P N B w0 w ops rest Q al (some d) e w' := by
  have h2 := Sat.more hs hb (fun k hk => hbl.block k hk) h'
  refine ⟨v, _, he, hw.trans (hbl.mono hb), h2.cong fun i => ?_, Nat.le_trans hb hbl.size, Kd.of_below hbl, k⟩
  rw [List.cons_append]
  by_cases h1 : i = id
  · subst h1; rw [look_cons_eq, look_cons_eq]
  · rw [look_cons_ne _ _ (Ne.symm h1), look_cons_ne _ _ (Ne.symm h1), look_append, look_append]
    by_cases h3 : i < base ∨ base + L.length ≤ i
    · rw [look_inn_none h3]
      cases look H i <;> rfl
    · rw [hH i (by omega) (by omega)]
      cases look (innH U base L) i <;> rfl
theorem encSl_snoc (L : List (Sl × List Int)) (x : Sl × List Int) : encSl.enc ((L ++ [x]).map (·.1)) = encSl.enc (L.map (·.1)) ++ [.slice x.1.1 x.1.2.1 x.1.2.2] := by
  rw [List.map_append, Enc.enc_append]; rfl
end Go.Proofs.Ytfbmkepogcimlaa.Hx

/-
  Efforts of program and reference.
-/



namespace Go.Proofs.Ytfbmkepogcimlaa
open Go Go.RowKit Hx
set_option linter.unusedVariables false
set_option linter.unusedSimpArgs false
set_option maxRecDepth 8000
theorem eff_prog (nm : ByteArray) (ga : Option Addr) (gn gc : Nat) (gs : List GateR) (A : ActV) (w : World) (hS : Rd encGate w.heap.size w ga gn gc gs) (hA : A.Ok w.heap.size w) (hseg : SegOk nm gs) (hok : SmpOk A.start A.ss) :
    Calls Try.prog 38 #[.agg #[.string nm, .slice ga gn gc], .agg #[.string A.name, .int .i64 A.sport, .int .i64 A.start, .slice A.sa A.sn A.sc, .slice A.la A.ln A.lc, .slice A.ta A.tn A.tc]] w fun e w' => ∃ a c L, e = .returned (.slice a L.length c) ∧ Below w.heap.size w w' ∧ OwnE w.heap.size w' 63 3 5 10000000 a L.length c L ∧ L.map (·.2) = effL gs.length (crossS gs (stepsL A.ss) (stepsL A.ss).length) := by
  have hgn := hS.len
  have hgl := hseg.len
  have hlen := stepsL_len A.ss
  have hl20 := hok.len
  have hcl := crossS_len gs (stepsL A.ss) (stepsL A.ss).length
  have hcb : gs.length * (stepsL A.ss).length ≤ 50 * 20000 := Nat.mul_le_mul hgl.2 (by omega)
  obtain ⟨cs, hcs⟩ : ∃ cs, cs = crossS gs (stepsL A.ss) (stepsL A.ss).length := ⟨_, rfl⟩
  rw [← hcs] at hcl ⊢
  refine enterQ (N := 53) (C := fun _ => True) (H := []) (B := w.heap.size) (args := [_, _]) Try.func38 rfl rfl rfl (Nat.le_refl _) (Sat.nil _ _) fun Q hQ => ?_
  refine wp_seq' fun K1 hK1 => ?_
  refine wp_reg ?_
  refine ol_box 2 rfl rfl rfl fun b2 => ?_
  refine ol_box 3 rfl rfl rfl fun b3 => ?_
  refine ol_r (r_assign rfl) rfl ?_
  refine ol_nil (to_k0 (fun _ _ h => h) (hK1 _ _ _ _ _ ?_))
  clear hK1
  refine wp_seq' fun K2 hK2 => ?_
  refine wp_reg ?_
  first
    | (refine ol_rekeyT 6 (10000000 + m) rfl (by omega) ?_ ?_
       · repeat' refine (look_cons_ne _ _ (by omega)).trans ?_
         exact look_inn_none (.inr (by omega)))
    | skip
  refine ol_nilrow 5 63 1 ?_
  refine ol_r (r_assign rfl) rfl ?_
  refine ol_nil (to_k0 (fun _ _ h => h) (hK2 _ _ _ _ _ ?_))
  clear hK2
  refine wp_seq' fun K3 hK3 => ?_
  refine wp_reg ?_
  first
    | refine ol_rekey 23 6 rfl (by decide) (ol_r (r_assign rfl) rfl ?_)
    | refine ol_nilrow 6 3 1 (ol_r (r_assign (v := .slice none 0 0) rfl) rfl ?_)
    | refine ol_r (r_assign rfl) rfl ?_
  refine ol_nil (to_k0 (fun _ _ h => h) (hK3 _ _ _ _ _ ?_))
  clear hK3
  refine wp_seq' fun K4 hK4 => ?_
  refine wp_seq' fun K5 hK5 => ?_
  refine wp_reg ?_
  refine ol_r (r_lda (id := 2) (n := 2) rfl rfl rfl ag52) rfl ?_
  refine ol_r (r_lda (id := 3) (n := 6) rfl rfl rfl ag57) rfl ?_
  refine ol_call rfl rfl cb70 rfl (fun w1 hb1 hs1 hB1 => Calls.mono (hcs ▸ cross_gen nm _ _ _ gs A _ (hS.at hb1 hB1) (hA.at hb1 hB1) hseg hok) ?_)
  rintro e w2 ⟨a11, n11, c11, rfl, hf11⟩
  refine After.fresh (id := 11) rfl hb1 hs1 hB1 hf11 ?_
  have hl11 := hf11.len; clear hf11 hB1 hs1 hb1 w2 w1
  refine ol_r (r_len rfl sl134) rfl ?_
  first
    | (have hno : ¬(0 < (effN gs.length cs k).2.length ∧ ((effN gs.length cs k).2.length : Int) = x15.gate) := by rw [hnn]; omega
       skip)
    | (have hfull : ¬(effN gs.length cs k).2.length + 1 = gs.length := by rw [hnn]; omega
       skip)
    | skip
  refine ol_r (r_move rfl) rfl ?_
  refine ol_nil (to_k0 (fun _ _ h => h) (hK5 _ _ _ _ _ ?_))
  clear hK5
  refine wp_block' ?_
  apply wp_loopT (σ := Nat × Nat × List (Sl × List Int) × Option Addr × Nat × Option Addr × Nat × Nat) (fun s => s.1 ≤ cs.length ∧ s.2.2.1.map (·.2) = (effN gs.length cs s.1).1 ∧ (effN gs.length cs s.1).2.length = s.2.2.2.2.2.2.1 ∧ s.2.2.1.length = s.2.1) (fun s => [(13, .int .i64 s.1), (5, .slice s.2.2.2.1 s.2.1 s.2.2.2.2.1), (6, .slice s.2.2.2.2.2.1 s.2.2.2.2.2.2.1 s.2.2.2.2.2.2.2)]) [(2, _), (4, _), (11, _), (12, _)] (fun s => [(5, .row s.2.2.2.1 s.2.1 s.2.2.2.2.1 (encSl.enc (s.2.2.1.map (·.1))) 63 1), (6, .row s.2.2.2.2.2.1 s.2.2.2.2.2.2.1 s.2.2.2.2.2.2.2 (encI.enc (effN gs.length cs s.1).2) 3 1)]) [(2, _), (3, _), (11, _)] (fun s => innH 3 10000000 s.2.2.1) (fun s => cs.length - s.1) ((0, 0, [], none, 0, none, 0, 0))
  ·try dsimp only
   exact ⟨Nat.zero_le _, rfl, rfl, rfl⟩
  ·exact (sub_cons rfl (sub_cons rfl (sub_cons rfl sub_nil)))
  ·exact (sub_cons rfl (sub_cons rfl (sub_cons rfl (sub_cons rfl sub_nil))))
  ·exact (subH_row rfl (by dsimp only; rfl) (subH_row rfl (by dsimp only; rfl) subH_nil))
  ·exact (subH_same rfl (subH_same rfl (subH_same rfl subH_nil)))
  ·exact subH_nil
  ·rintro ⟨k, m, L, oa, oc, na, nn, nc⟩ ⟨hk, hL, hnn, hm⟩
   dsimp only at hk hL hnn hm ⊢
   have hLl : m ≤ k := by
     have h1 := effN_cnt gs.length cs k
     rw [← hL, List.length_map] at h1; omega
   have hlt := effN_lt hgl.1 cs k
   intro K6 hK6
   refine wp_seq' fun K7 hK7 => ?_
   refine wp_reg ?_
   refine ol_r (r_lss rfl rfl) rfl ?_
   refine ol_nil (to_k0 (fun _ _ h => h) (hK7 _ _ _ _ _ ?_))
   clear hK7
   refine wp_seq' fun K8 hK8 => ?_
   refine wp_condD rfl (fun hc14 => ?_) (fun hc14 => ?_)
   ·refine wp_skip' (to_k0 (fun _ _ h => h) (hK8 _ _ _ _ _ ?_))
    clear hK8
    refine wp_seq' fun K9 hK9 => ?_
    refine wp_block' ?_
    refine wp_seq' fun K10 hK10 => ?_
    refine wp_reg ?_
    refine ol_ixo (id := 11) encCr _ rfl rfl rfl rfl sl134 (by omega) rfl fun x15 hx15 => ?_
    try simp only [Int.toNat_natCast] at hx15
    try simp only [Int.toNat_natCast] at hx15
    refine ol_r (r_ldw rfl (fun w1 hb1 hs1 hB1 => ld_own (id := 11) hs1 rfl rfl ty137 hx15)) rfl ?_
    refine ol_alloc 8 z137 rfl fun b8 => ?_
    refine ol_store (id := 8) rfl rfl rfl rfl sz137 rfl rfl (by first | decide | exact Nat.zero_lt_succ _ | simp) ?_
    refine ol_nil (to_k0 (fun _ _ h => h) (hK10 _ _ _ _ _ ?_))
    clear hK10
    refine wp_block' ?_
    refine wp_seq' fun K11 hK11 => ?_
    refine wp_reg ?_
    refine ol_r (r_fa (o' := 0) rfl fl137_0 rfl) rfl ?_
    refine ol_r (r_ld (id := 8) rfl rfl rfl sc3) rfl ?_
    refine ol_r (r_eql rfl rfl) rfl ?_
    refine ol_r (r_assign rfl) rfl ?_
    refine ol_nil (to_k0 (fun _ _ h => h) (hK11 _ _ _ _ _ ?_))
    clear hK11
    refine wp_condD rfl (fun hc17 => ?_) (fun hc17 => ?_)
    ·refine wp_reg ?_
     refine ol_r (r_fa (o' := 2) rfl fl137_2 rfl) rfl ?_
     refine ol_r (r_ld (id := 8) rfl rfl rfl sc3) rfl ?_
     refine ol_bs1 23 rfl rfl rw61 rfl rfl rfl fun a23 => ?_
     first
       | refine ol_rekey 23 6 rfl (by decide) (ol_r (r_assign rfl) rfl ?_)
       | refine ol_nilrow 6 3 1 (ol_r (r_assign (v := .slice none 0 0) rfl) rfl ?_)
       | refine ol_r (r_assign rfl) rfl ?_
     refine ol_nil (to_k0 (fun _ _ h => h) (hK9 _ _ _ _ _ ?_))
     clear hK9
     refine wp_reg ?_
     refine ol_r (r_add rfl rfl (by omega)) rfl ?_
     first
       | (have hno : ¬(0 < (effN gs.length cs k).2.length ∧ ((effN gs.length cs k).2.length : Int) = x15.gate) := by rw [hnn]; omega
          skip)
       | (have hfull : ¬(effN gs.length cs k).2.length + 1 = gs.length := by rw [hnn]; omega
          skip)
       | skip
     refine ol_r (r_move rfl) rfl ?_
     refine ol_nil (to_k0 (fun _ _ h => h) (hK6 ((k + 1, m, L, _, _, _, _, _)) _ _ ?_ ?_ (sub_cons rfl (sub_cons rfl (sub_cons rfl sub_nil))) (sub_cons rfl (sub_cons rfl (sub_cons rfl (sub_cons rfl sub_nil)))) (by exact (subH_row rfl (by first | (dsimp only; first | rfl | (rw [effN_a hx15 hc17]; rfl) | (rw [effN_c hx15 hc17 hin hfull]; rfl) | (rw [effN_d hx15 hc17 hin hfull, encI_snoc]) | (rw [effN_b hx15 hc17 hno]) | (rw [encSl_snoc]); done) | (first | rfl | (rw [effN_a hx15 hc17]; rfl) | (rw [effN_c hx15 hc17 hin hfull]; rfl) | (rw [effN_d hx15 hc17 hin hfull, encI_snoc]) | (rw [effN_b hx15 hc17 hno]) | (rw [encSl_snoc]); done) | (dsimp only; done)) (subH_row rfl (by first | (dsimp only; first | rfl | (rw [effN_a hx15 hc17]; rfl) | (rw [effN_c hx15 hc17 hin hfull]; rfl) | (rw [effN_d hx15 hc17 hin hfull, encI_snoc]) | (rw [effN_b hx15 hc17 hno]) | (rw [encSl_snoc]); done) | (first | rfl | (rw [effN_a hx15 hc17]; rfl) | (rw [effN_c hx15 hc17 hin hfull]; rfl) | (rw [effN_d hx15 hc17 hin hfull, encI_snoc]) | (rw [effN_b hx15 hc17 hno]) | (rw [encSl_snoc]); done) | (dsimp only; done)) subH_nil))) (subH_same rfl (subH_same rfl (subH_same rfl subH_nil))) ?_))
     ·try dsimp only
      exact ⟨by omega, by rw [effN_a hx15 hc17]; exact hL, by rw [effN_a hx15 hc17]; rfl, hm⟩
     ·try dsimp only
      omega
     ·try dsimp only
      refine subH_inn fun j x hj => ?_
      repeat' refine (look_cons_ne _ _ (by omega)).trans ?_
      exact look_inn hj
    ·refine wp_seq' fun K12 hK12 => ?_
     refine wp_reg ?_
     refine ol_r (r_move rfl) rfl ?_
     refine ol_r (r_len rfl sl61) rfl ?_
     refine ol_r (r_gtr rfl rfl) rfl ?_
     refine ol_r (r_move rfl) rfl ?_
     refine ol_split (d := 28) rfl (fun hs28 => ?_) (fun hs28 => ?_)
     ·have phs28 := hs28; try simp only [decide_eq_true_eq, decide_eq_false_iff_not, Bool.not_eq_true', Bool.not_eq_false', Bool.not_true, Bool.not_false] at phs28
      refine ol_g rfl rfl hs28 ?_
      refine ol_r (r_move rfl) rfl ?_
      refine ol_g rfl rfl hs28 ?_
      refine ol_r (r_len rfl sl61) rfl ?_
      refine ol_g rfl rfl hs28 ?_
      refine ol_r (r_fa (o' := 0) rfl fl137_0 rfl) rfl ?_
      refine ol_g rfl rfl hs28 ?_
      refine ol_r (r_ld (id := 8) rfl rfl rfl sc3) rfl ?_
      refine ol_g rfl rfl hs28 ?_
      refine ol_r (r_eql rfl rfl) rfl ?_
      refine ol_r (r_pickT rfl hs28 rfl) rfl ?_
      refine ol_r (r_assign rfl) rfl ?_
      refine ol_nil (to_k0 (fun _ _ h => h) (hK12 _ _ _ _ _ ?_))
      clear hK12
      refine wp_condD rfl (fun hc24 => ?_) (fun hc24 => ?_)
      ·refine wp_seq' fun K13 hK13 => ?_
       refine wp_reg ?_
       refine ol_r (r_move rfl) rfl ?_
       refine ol_r (r_fa (o' := 2) rfl fl137_2 rfl) rfl ?_
       refine ol_r (r_ld (id := 8) rfl rfl rfl sc3) rfl ?_
       refine ol_bs1 38 rfl rfl rw61 rfl rfl rfl fun a38 => ?_
       have hin : 0 < (effN gs.length cs k).2.length ∧ ((effN gs.length cs k).2.length : Int) = x15.gate := by rw [hnn]; exact ⟨by omega, by omega⟩
       refine ol_append1 (id := 6) (id2 := 38) rfl rfl rfl rfl rfl rw61 (by omega) rfl fun a39 c39 => ?_
       first
         | refine ol_rekey 23 6 rfl (by decide) (ol_r (r_assign rfl) rfl ?_)
         | refine ol_nilrow 6 3 1 (ol_r (r_assign (v := .slice none 0 0) rfl) rfl ?_)
         | refine ol_r (r_assign rfl) rfl ?_
       refine ol_nil (to_k0 (fun _ _ h => h) (hK13 _ _ _ _ _ ?_))
       clear hK13
       refine wp_seq' fun K14 hK14 => ?_
       refine wp_reg ?_
       refine ol_r (r_move rfl) rfl ?_
       refine ol_r (r_len rfl sl61) rfl ?_
       refine ol_r (r_fa (o' := 1) rfl fl52_1 rfl) rfl ?_
       refine ol_r (r_ld (id := 2) rfl rfl rfl sc50) rfl ?_
       refine ol_r (r_len rfl sl50) rfl ?_
       refine ol_r (r_eql rfl rfl) rfl ?_
       refine ol_nil (to_k0 (fun _ _ h => h) (hK14 _ _ _ _ _ ?_))
       clear hK14
       refine wp_condD rfl (fun hc45 => ?_) (fun hc45 => ?_)
       ·refine wp_reg ?_
        have hfull : (effN gs.length cs k).2.length + 1 = gs.length := by rw [hnn]; omega
        refine ol_r (r_move rfl) rfl ?_
        refine ol_r (r_move rfl) rfl ?_
        refine ol_r (r_build rfl (fun _ => bd63_0 _ _ _ _)) rfl ?_
        refine ol_bs1 49 rfl rfl rw58 rfl rfl rfl fun a49 => ?_
        refine ol_append1 (id := 5) (id2 := 49) rfl rfl rfl rfl rfl rw58 (by omega) rfl fun a50 c50 => ?_
        first
          | (refine ol_rekeyT 6 (10000000 + m) rfl (by omega) ?_ ?_
             · repeat' refine (look_cons_ne _ _ (by omega)).trans ?_
               exact look_inn_none (.inr (by omega)))
          | skip
        refine ol_r (r_assign rfl) rfl ?_
        first
          | refine ol_rekey 23 6 rfl (by decide) (ol_r (r_assign rfl) rfl ?_)
          | refine ol_nilrow 6 3 1 (ol_r (r_assign (v := .slice none 0 0) rfl) rfl ?_)
          | refine ol_r (r_assign rfl) rfl ?_
        refine ol_nil (to_k0 (fun _ _ h => h) (hK9 _ _ _ _ _ ?_))
        clear hK9
        refine wp_reg ?_
        refine ol_r (r_add rfl rfl (by omega)) rfl ?_
        first
          | (have hno : ¬(0 < (effN gs.length cs k).2.length ∧ ((effN gs.length cs k).2.length : Int) = x15.gate) := by rw [hnn]; omega
             skip)
          | (have hfull : ¬(effN gs.length cs k).2.length + 1 = gs.length := by rw [hnn]; omega
             skip)
          | skip
        refine ol_r (r_move rfl) rfl ?_
        refine ol_nil (to_k0 (fun _ _ h => h) (hK6 ((k + 1, m + 1, L ++ [((a39, nn + 1, c39), (effN gs.length cs k).2 ++ [x15.at_])], _, _, _, _, _)) _ _ ?_ ?_ (sub_cons rfl (sub_cons rfl (sub_cons rfl sub_nil))) (sub_cons rfl (sub_cons rfl (sub_cons rfl (sub_cons rfl sub_nil)))) (by exact (subH_row rfl (by dsimp only; first | rfl | (rw [effN_a hx15 hc17]; rfl) | (rw [effN_c hx15 hc17 hin hfull]; rfl) | (rw [effN_d hx15 hc17 hin hfull, encI_snoc]) | (rw [effN_b hx15 hc17 hno]) | (rw [encSl_snoc])) (subH_row rfl (by first | (dsimp only; first | rfl | (rw [effN_a hx15 hc17]; rfl) | (rw [effN_c hx15 hc17 hin hfull]; rfl) | (rw [effN_d hx15 hc17 hin hfull, encI_snoc]) | (rw [effN_b hx15 hc17 hno]) | (rw [encSl_snoc]); done) | (first | rfl | (rw [effN_a hx15 hc17]; rfl) | (rw [effN_c hx15 hc17 hin hfull]; rfl) | (rw [effN_d hx15 hc17 hin hfull, encI_snoc]) | (rw [effN_b hx15 hc17 hno]) | (rw [encSl_snoc]); done) | (dsimp only; done)) subH_nil))) (subH_same rfl (subH_same rfl (subH_same rfl subH_nil))) ?_))
        ·try dsimp only
         exact ⟨by omega, by rw [effN_c hx15 hc17 hin hfull, List.map_append, hL]; rfl, by rw [effN_c hx15 hc17 hin hfull]; rfl, by rw [List.length_append, hm]; rfl⟩
        ·try dsimp only
         omega
        ·try dsimp only
         refine subH_snoc (fun j x hj => ?_) ?_
         · have hjl := (List.getElem?_eq_some_iff.1 hj).1
           repeat' refine (look_cons_ne _ _ (by omega)).trans ?_
           exact look_inn_app hj
         · rw [hm]
           repeat' refine (look_cons_ne _ _ (by omega)).trans ?_
           exact (look_inn_skip (.inr (by omega))).trans ((look_cons_eq _ _ _).trans (congrArg some (by unfold rowOf; rw [encI_snoc])))
       ·refine wp_skip' (to_k0 (fun _ _ h => h) (hK9 _ _ _ _ _ ?_))
        clear hK9
        refine wp_reg ?_
        refine ol_r (r_add rfl rfl (by omega)) rfl ?_
        first
          | (have hno : ¬(0 < (effN gs.length cs k).2.length ∧ ((effN gs.length cs k).2.length : Int) = x15.gate) := by rw [hnn]; omega
             skip)
          | (have hfull : ¬(effN gs.length cs k).2.length + 1 = gs.length := by rw [hnn]; omega
             skip)
          | skip
        refine ol_r (r_move rfl) rfl ?_
        refine ol_nil (to_k0 (fun _ _ h => h) (hK6 ((k + 1, m, L, _, _, _, _, _)) _ _ ?_ ?_ (sub_cons rfl (sub_cons rfl (sub_cons rfl sub_nil))) (sub_cons rfl (sub_cons rfl (sub_cons rfl (sub_cons rfl sub_nil)))) (by exact (subH_row rfl (by first | (dsimp only; first | rfl | (rw [effN_a hx15 hc17]; rfl) | (rw [effN_c hx15 hc17 hin hfull]; rfl) | (rw [effN_d hx15 hc17 hin hfull, encI_snoc]) | (rw [effN_b hx15 hc17 hno]) | (rw [encSl_snoc]); done) | (first | rfl | (rw [effN_a hx15 hc17]; rfl) | (rw [effN_c hx15 hc17 hin hfull]; rfl) | (rw [effN_d hx15 hc17 hin hfull, encI_snoc]) | (rw [effN_b hx15 hc17 hno]) | (rw [encSl_snoc]); done) | (dsimp only; done)) (subH_row rfl (by first | (dsimp only; first | rfl | (rw [effN_a hx15 hc17]; rfl) | (rw [effN_c hx15 hc17 hin hfull]; rfl) | (rw [effN_d hx15 hc17 hin hfull, encI_snoc]) | (rw [effN_b hx15 hc17 hno]) | (rw [encSl_snoc]); done) | (first | rfl | (rw [effN_a hx15 hc17]; rfl) | (rw [effN_c hx15 hc17 hin hfull]; rfl) | (rw [effN_d hx15 hc17 hin hfull, encI_snoc]) | (rw [effN_b hx15 hc17 hno]) | (rw [encSl_snoc]); done) | (dsimp only; done)) subH_nil))) (subH_same rfl (subH_same rfl (subH_same rfl subH_nil))) ?_))
        ·try dsimp only
         exact ⟨by omega, by rw [effN_d hx15 hc17 hin hfull]; exact hL, by rw [effN_d hx15 hc17 hin hfull, List.length_append, hnn]; rfl, hm⟩
        ·try dsimp only
         omega
        ·try dsimp only
         refine subH_inn fun j x hj => ?_
         repeat' refine (look_cons_ne _ _ (by omega)).trans ?_
         exact look_inn hj
      ·refine wp_skip' (to_k0 (fun _ _ h => h) (hK9 _ _ _ _ _ ?_))
       clear hK9
       refine wp_reg ?_
       refine ol_r (r_add rfl rfl (by omega)) rfl ?_
       first
         | (have hno : ¬(0 < (effN gs.length cs k).2.length ∧ ((effN gs.length cs k).2.length : Int) = x15.gate) := by rw [hnn]; omega
            skip)
         | (have hfull : ¬(effN gs.length cs k).2.length + 1 = gs.length := by rw [hnn]; omega
            skip)
         | skip
       refine ol_r (r_move rfl) rfl ?_
       refine ol_nil (to_k0 (fun _ _ h => h) (hK6 ((k + 1, m, L, _, _, _, _, _)) _ _ ?_ ?_ (sub_cons rfl (sub_cons rfl (sub_cons rfl sub_nil))) (sub_cons rfl (sub_cons rfl (sub_cons rfl (sub_cons rfl sub_nil)))) (by exact (subH_row rfl (by first | (dsimp only; first | rfl | (rw [effN_a hx15 hc17]; rfl) | (rw [effN_c hx15 hc17 hin hfull]; rfl) | (rw [effN_d hx15 hc17 hin hfull, encI_snoc]) | (rw [effN_b hx15 hc17 hno]) | (rw [encSl_snoc]); done) | (first | rfl | (rw [effN_a hx15 hc17]; rfl) | (rw [effN_c hx15 hc17 hin hfull]; rfl) | (rw [effN_d hx15 hc17 hin hfull, encI_snoc]) | (rw [effN_b hx15 hc17 hno]) | (rw [encSl_snoc]); done) | (dsimp only; done)) (subH_row rfl (by first | (dsimp only; first | rfl | (rw [effN_a hx15 hc17]; rfl) | (rw [effN_c hx15 hc17 hin hfull]; rfl) | (rw [effN_d hx15 hc17 hin hfull, encI_snoc]) | (rw [effN_b hx15 hc17 hno]) | (rw [encSl_snoc]); done) | (first | rfl | (rw [effN_a hx15 hc17]; rfl) | (rw [effN_c hx15 hc17 hin hfull]; rfl) | (rw [effN_d hx15 hc17 hin hfull, encI_snoc]) | (rw [effN_b hx15 hc17 hno]) | (rw [encSl_snoc]); done) | (dsimp only; done)) subH_nil))) (subH_same rfl (subH_same rfl (subH_same rfl subH_nil))) ?_))
       ·try dsimp only
        exact ⟨by omega, by rw [effN_b hx15 hc17 hno]; exact hL, by rw [effN_b hx15 hc17 hno]; exact hnn, hm⟩
       ·try dsimp only
        omega
       ·try dsimp only
        refine subH_inn fun j x hj => ?_
        repeat' refine (look_cons_ne _ _ (by omega)).trans ?_
        exact look_inn hj
     ·have phs28 := hs28; try simp only [decide_eq_true_eq, decide_eq_false_iff_not, Bool.not_eq_true', Bool.not_eq_false', Bool.not_true, Bool.not_false] at phs28
      refine ol_s rfl rfl hs28 rfl ?_
      refine ol_s rfl rfl hs28 rfl ?_
      refine ol_s rfl rfl hs28 rfl ?_
      refine ol_s rfl rfl hs28 rfl ?_
      refine ol_s rfl rfl hs28 rfl ?_
      refine ol_r (r_pickF rfl hs28 rfl) rfl ?_
      refine ol_r (r_assign rfl) rfl ?_
      refine ol_nil (to_k0 (fun _ _ h => h) (hK12 _ _ _ _ _ ?_))
      clear hK12
      refine wp_condF rfl ?_
      refine wp_skip' (to_k0 (fun _ _ h => h) (hK9 _ _ _ _ _ ?_))
      clear hK9
      refine wp_reg ?_
      refine ol_r (r_add rfl rfl (by omega)) rfl ?_
      first
        | (have hno : ¬(0 < (effN gs.length cs k).2.length ∧ ((effN gs.length cs k).2.length : Int) = x15.gate) := by rw [hnn]; omega
           skip)
        | (have hfull : ¬(effN gs.length cs k).2.length + 1 = gs.length := by rw [hnn]; omega
           skip)
        | skip
      refine ol_r (r_move rfl) rfl ?_
      refine ol_nil (to_k0 (fun _ _ h => h) (hK6 ((k + 1, m, L, _, _, _, _, _)) _ _ ?_ ?_ (sub_cons rfl (sub_cons rfl (sub_cons rfl sub_nil))) (sub_cons rfl (sub_cons rfl (sub_cons rfl (sub_cons rfl sub_nil)))) (by exact (subH_row rfl (by first | (dsimp only; first | rfl | (rw [effN_a hx15 hc17]; rfl) | (rw [effN_c hx15 hc17 hin hfull]; rfl) | (rw [effN_d hx15 hc17 hin hfull, encI_snoc]) | (rw [effN_b hx15 hc17 hno]) | (rw [encSl_snoc]); done) | (first | rfl | (rw [effN_a hx15 hc17]; rfl) | (rw [effN_c hx15 hc17 hin hfull]; rfl) | (rw [effN_d hx15 hc17 hin hfull, encI_snoc]) | (rw [effN_b hx15 hc17 hno]) | (rw [encSl_snoc]); done) | (dsimp only; done)) (subH_row rfl (by first | (dsimp only; first | rfl | (rw [effN_a hx15 hc17]; rfl) | (rw [effN_c hx15 hc17 hin hfull]; rfl) | (rw [effN_d hx15 hc17 hin hfull, encI_snoc]) | (rw [effN_b hx15 hc17 hno]) | (rw [encSl_snoc]); done) | (first | rfl | (rw [effN_a hx15 hc17]; rfl) | (rw [effN_c hx15 hc17 hin hfull]; rfl) | (rw [effN_d hx15 hc17 hin hfull, encI_snoc]) | (rw [effN_b hx15 hc17 hno]) | (rw [encSl_snoc]); done) | (dsimp only; done)) subH_nil))) (subH_same rfl (subH_same rfl (subH_same rfl subH_nil))) ?_))
      ·try dsimp only
       exact ⟨by omega, by rw [effN_b hx15 hc17 hno]; exact hL, by rw [effN_b hx15 hc17 hno]; exact hnn, hm⟩
      ·try dsimp only
       omega
      ·try dsimp only
       refine subH_inn fun j x hj => ?_
       repeat' refine (look_cons_ne _ _ (by omega)).trans ?_
       exact look_inn hj
   ·refine wp_exit' (to_k0 (fun _ _ h => h) (hK4 _ _ _ _ _ ?_))
    clear hK4
    refine wp_seq' fun K15 hK15 => ?_
    refine wp_reg ?_
    refine ol_r (r_move rfl) rfl ?_
    refine ol_r (r_assign rfl) rfl ?_
    refine ol_nil (to_k0 (fun _ _ h => h) (hK15 _ _ _ _ _ ?_))
    clear hK15
    refine hQ.ret (rvs1 (rv_t rfl)) (fun _ _ h => h) fun w hb hs hB hkd => ?_
    obtain rfl : k = cs.length := by omega
    subst hm
    refine ⟨_, _, L, rfl, hb, hs.sub (subH_row rfl rfl (subH_inn fun j x hj => ?_)), hL⟩
    repeat' refine (look_cons_ne _ _ (by omega)).trans ?_
    exact look_inn hj
def effR (nm : ByteArray) (gs : List GateR) (d : ActD) : List (List Int) × Int := if orL [chkSeg nm gs, chkA d] ≠ 0 then ([], orL [chkSeg nm gs, chkA d]) else (effL gs.length (crossS gs (stepsL d.ss) (stepsL d.ss).length), 0)
theorem ownE_nil (B : Nat) (w : World) (T U : TypeId) (id base : Nat) : OwnE B w T U id base none 0 0 [] := (Sat.nil B w).nilRow id T 1
theorem crossR_e {nm : ByteArray} {gs : List GateR} {d : ActD} (h : (crossR nm gs d).2 ≠ 0) : orL [chkSeg nm gs, chkA d] ≠ 0 := by
  unfold crossR at h
  split at h
  · assumption
  · exact absurd rfl h
theorem crossR_0 {nm : ByteArray} {gs : List GateR} {d : ActD} (h : ¬(crossR nm gs d).2 ≠ 0) : ¬orL [chkSeg nm gs, chkA d] ≠ 0 := by
  unfold crossR at h
  split at h
  · exact absurd ‹_› h
  · assumption
theorem match_Efforts (nm : ByteArray) (ga : Option Addr) (gn gc : Nat) (gs : List GateR) (A : ActV) (w : World) (hn : nm.size ≤ 9223372036854775807) (hS : Rd encGate w.heap.size w ga gn gc gs) (hA : A.Ok w.heap.size w) :
    Calls Try.prog 12 #[.agg #[.string nm, .slice ga gn gc], .agg #[.string A.name, .int .i64 A.sport, .int .i64 A.start, .slice A.sa A.sn A.sc, .slice A.la A.ln A.lc, .slice A.ta A.tn A.tc]] w fun e w' => ∃ a c L, e = .returned (.tuple #[.slice a L.length c, .int .i64 (effR nm gs A.d).2]) ∧ Below w.heap.size w w' ∧ OwnE w.heap.size w' 63 3 5 10000000 a L.length c L ∧ L.map (·.2) = (effR nm gs A.d).1 := by
  refine enterQ (N := 16) (C := fun _ => True) (H := []) (B := w.heap.size) (args := [_, _]) Try.func12 rfl rfl rfl (Nat.le_refl _) (Sat.nil _ _) fun Q hQ => ?_
  refine wp_seq' fun K1 hK1 => ?_
  refine wp_reg ?_
  refine ol_box 2 rfl rfl rfl fun b2 => ?_
  refine ol_box 3 rfl rfl rfl fun b3 => ?_
  refine ol_r (r_assign rfl) rfl ?_
  refine ol_r (r_assign rfl) rfl ?_
  refine ol_nil (to_k0 (fun _ _ h => h) (hK1 _ _ _ _ _ ?_))
  clear hK1
  refine wp_seq' fun K2 hK2 => ?_
  refine wp_seq' fun K3 hK3 => ?_
  refine wp_reg ?_
  refine ol_r (r_lda (id := 2) (n := 2) rfl rfl rfl ag52) rfl ?_
  refine ol_r (r_lda (id := 3) (n := 6) rfl rfl rfl ag57) rfl ?_
  refine ol_call rfl rfl cb37 rfl (fun w1 hb1 hs1 hB1 => Calls.mono (match_checkRun nm _ _ _ gs A _ hn (hS.at hb1 hB1) (hA.at hb1 hB1)) ?_)
  rintro e w2 ⟨rfl, hb2⟩
  refine After.below rfl hb1 hs1 hB1 hb2 ?_
  clear hb2 hB1 hs1 hb1 w2 w1
  refine ol_r (r_assign rfl) rfl ?_
  refine ol_nil (to_k0 (fun _ _ h => h) (hK3 _ _ _ _ _ ?_))
  clear hK3
  refine wp_seq' fun K4 hK4 => ?_
  refine wp_reg ?_
  refine ol_r (r_move rfl) rfl ?_
  refine ol_r (r_neq rfl rfl) rfl ?_
  refine ol_nil (to_k0 (fun _ _ h => h) (hK4 _ _ _ _ _ ?_))
  clear hK4
  refine wp_condD rfl (fun hc11 => ?_) (fun hc11 => ?_)
  ·refine wp_seq' fun K5 hK5 => ?_
   refine wp_reg ?_
   refine ol_r (r_move rfl) rfl ?_
   refine ol_r (r_assign rfl) rfl ?_
   refine ol_r (r_assign rfl) rfl ?_
   refine ol_nil (to_k0 (fun _ _ h => h) (hK5 _ _ _ _ _ ?_))
   clear hK5
   refine hQ.ret (rvs2 (rv_t rfl) (rv_t rfl)) (fun _ _ h => h) fun w hb hs hB hkd => ?_
   exact ⟨none, 0, [], by rw [effR, if_pos hc11]; rfl, hb, ownE_nil _ _ _ _ _ _, by rw [effR, if_pos hc11]; rfl⟩
  ·refine wp_skip' (to_k0 (fun _ _ h => h) (hK2 _ _ _ _ _ ?_))
   clear hK2
   refine wp_seq' fun K6 hK6 => ?_
   refine wp_reg ?_
   refine ol_r (r_lda (id := 2) (n := 2) rfl rfl rfl ag52) rfl ?_
   refine ol_r (r_lda (id := 3) (n := 6) rfl rfl rfl ag57) rfl ?_
   refine ol_call rfl rfl cb38 rfl (fun w1 hb1 hs1 hB1 => ?_)
   refine Calls.mono (eff_prog nm _ _ _ gs A _ (hS.at hb1 hB1) (hA.at hb1 hB1) (or_both hc11).1 (or_both hc11).2) ?_
   rintro e w2 ⟨a5, c5, L, rfl, hb2, hs2, hL⟩
   refine After.moreE rfl hb1 hs1 hB1 hb2 (hs2.num (by decide) 1005 10000000 (by decide)) (by decide) (fun i hi _ => ?_) ?_
   · repeat' refine (look_cons_ne _ _ (by omega)).trans ?_
     rfl
   clear hs2 hb2 hB1 hs1 hb1 w2 w1
   refine ol_r (r_assign rfl) rfl ?_
   refine ol_r (r_assign rfl) rfl ?_
   refine ol_nil (to_k0 (fun _ _ h => h) (hK6 _ _ _ _ _ ?_))
   clear hK6
   refine hQ.ret (rvs2 (rv_t rfl) (rv_t rfl)) (fun _ _ h => h) fun w hb hs hB hkd => ?_
   refine ⟨_, _, L, by rw [effR, if_neg hc11], hb, OwnE.num (id := 1005) (base := 10000000) (hs.sub (subH_row rfl rfl (subH_inn fun j x hj => ?_))) (by decide) 5 10000000 (by decide), by rw [effR, if_neg hc11]; exact hL⟩
   repeat' refine (look_cons_ne _ _ (by omega)).trans ?_
   exact look_inn hj
end Go.Proofs.Ytfbmkepogcimlaa

/-
  Quotients that are rounded to the nearest. No program stands here.
-/

namespace Go.Proofs.Ytfbmkepogcimlaa
set_option linter.unusedVariables false
/-- A quotient of numbers that are not below 0, with its rest, rounded to the nearest; a half goes up just if m is false. -/
def nearP (x d : Int) (m : Bool) : Int := x / d + (if 0 < x % d ∧ (d - x % d < x % d ∨ d - x % d = x % d ∧ m = false) then 1 else 0)
def nearV (a num den : Int) : Int := if a < 0 then -nearP (-a * num) den true else nearP (a * num) den false
theorem nearP_bd {x d n : Int} {m : Bool} (h0 : 0 ≤ x) (hd : 1 ≤ d) (h : x ≤ n * d) : 0 ≤ nearP x d m ∧ nearP x d m ≤ n := by
  have h1 := upD_bd h0 hd h
  have h2 := upD_eq (x := x) hd
  have h3 : 0 ≤ x / d := Int.ediv_nonneg h0 (by omega)
  unfold nearP
  split <;> split at h2 <;> omega
theorem nearV_bd {a num den : Int} (hn : 0 ≤ num) (hd : 1 ≤ den) (h : num ≤ den) : (0 ≤ a → 0 ≤ nearV a num den ∧ nearV a num den ≤ a) ∧ (a ≤ 0 → a ≤ nearV a num den ∧ nearV a num den ≤ 0) := by
  have key : ∀ (b : Int) (m : Bool), 0 ≤ b → 0 ≤ nearP (b * num) den m ∧ nearP (b * num) den m ≤ b := fun b m hb => nearP_bd (Int.mul_nonneg hb hn) hd (Int.mul_le_mul_of_nonneg_left h hb)
  unfold nearV
  refine ⟨fun h0 => ?_, fun h0 => ?_⟩
  · rw [if_neg (by omega)]; exact key a false h0
  · by_cases h1 : a < 0
    · rw [if_pos h1]
      have := key (-a) true (by omega)
      omega
    · rw [if_neg h1]
      have := key a false (by omega)
      omega
end Go.Proofs.Ytfbmkepogcimlaa

/-
  Activities with other samples. No program stands here.
-/

namespace Go.Proofs.Ytfbmkepogcimlaa
set_option linter.unusedVariables false
def SmpR.back (by_ : Int) (x : SmpR) : SmpR := ⟨x.at_ - by_, x.x, x.y, x.z, x.pulse, x.power, x.steps⟩
def backS (by_ : Int) (l : List SmpR) : List SmpR := l.map (SmpR.back by_)
theorem backS_succ {by_ : Int} {l : List SmpR} {k : Nat} {x : SmpR} (h : l[k]? = some x) : backS by_ (l.take (k + 1)) = backS by_ (l.take k) ++ [x.back by_] := by
  unfold backS; rw [take_succ_get h, List.map_append]; rfl
def lapAt (by_ span n : Int) : Int := min (max (n - by_) 0) span
def LapR.back (by_ span : Int) (x : LapR) : LapR := ⟨lapAt by_ span x.from_, lapAt by_ span x.to, x.name⟩
def backL (by_ span : Int) (l : List LapR) : List LapR := (l.map (LapR.back by_ span)).filter fun x => decide (x.from_ < x.to)
theorem backL_yes {by_ span : Int} {l : List LapR} {k : Nat} {x : LapR} (h : l[k]? = some x) (hx : lapAt by_ span x.from_ < lapAt by_ span x.to) : backL by_ span (l.take (k + 1)) = backL by_ span (l.take k) ++ [x.back by_ span] := by
  unfold backL; rw [take_succ_get h, List.map_append, List.filter_append]
  congr 1
  simp [LapR.back, hx]
theorem backL_no {by_ span : Int} {l : List LapR} {k : Nat} {x : LapR} (h : l[k]? = some x) (hx : ¬lapAt by_ span x.from_ < lapAt by_ span x.to) : backL by_ span (l.take (k + 1)) = backL by_ span (l.take k) := by
  unfold backL; rw [take_succ_get h, List.map_append, List.filter_append]
  simp [LapR.back, hx]
theorem backL_len (by_ span : Int) (l : List LapR) : (backL by_ span l).length ≤ l.length := by
  unfold backL
  have := List.length_filter_le (fun x : LapR => decide (x.from_ < x.to)) (l.map (LapR.back by_ span))
  rw [List.length_map] at this
  exact this
def partD (a : ActD) (l : List SmpR) (by_ : Int) : ActD := ⟨a.name, a.sport, a.start + by_, backS by_ l, backL by_ (spanL (backS by_ l)) a.ls, a.ts⟩
def noA : ActD := ⟨ByteArray.empty, 0, 0, [], [], []⟩
/-- The part, if it is right. -/
def partR (a : ActD) (l : List SmpR) (by_ : Int) : ActD × Int := if chkA (partD a l by_) ≠ 0 then (noA, chkA (partD a l by_)) else (partD a l by_, 0)
theorem lap_bd {a : ActD} (h : GoodA a) : ∀ x ∈ a.ls, 0 ≤ x.from_ ∧ x.from_ < x.to ∧ x.to ≤ spanL a.ss := by
  intro x hx
  obtain ⟨i, hi⟩ := List.getElem?_of_mem hx
  have h1 := chkE_ok h.l hi
  unfold fL at h1
  by_cases h2 : x.from_ < 0 ∨ x.to ≤ x.from_ ∨ spanL a.ss < x.to
  · rw [if_pos h2] at h1; omega
  · omega
theorem partR_e {a : ActD} {l : List SmpR} {b : Int} (h : chkA (partD a l b) ≠ 0) : partR a l b = (noA, chkA (partD a l b)) := if_pos h
theorem partR_0 {a : ActD} {l : List SmpR} {b : Int} (h : ¬chkA (partD a l b) ≠ 0) : partR a l b = (partD a l b, 0) := if_neg h
end Go.Proofs.Ytfbmkepogcimlaa

/-
  Where somebody was at a second; samples each so many seconds; what lies between two seconds. No program stands here.
-/


namespace Go.Proofs.Ytfbmkepogcimlaa
set_option linter.unusedVariables false
def btw (p q n d : Int) : Int := p + nearV (q - p) n d
def amidV (p q : SmpR) (t : Int) : SmpR := ⟨t, btw p.x q.x (t - p.at_) (q.at_ - p.at_), btw p.y q.y (t - p.at_) (q.at_ - p.at_), btw p.z q.z (t - p.at_) (q.at_ - p.at_), p.pulse, p.power, p.steps⟩
theorem btw_bd {p q n d L : Int} (hn : 0 ≤ n) (hd : 1 ≤ d) (h : n ≤ d) (hp : -L ≤ p ∧ p ≤ L) (hq : -L ≤ q ∧ q ≤ L) : -L ≤ btw p q n d ∧ btw p q n d ≤ L := by
  have h1 := nearV_bd (a := q - p) hn hd h
  unfold btw
  by_cases h2 : 0 ≤ q - p
  · have := h1.1 h2; omega
  · have := h1.2 (by omega); omega
/-- The sample of a second. -/
def whereL (t : Int) : Option SmpR → List SmpR → SmpR
  | p, [] => ⟨0, 0, 0, 0, 0, 0, 0⟩
  | p, b :: r => if t = b.at_ then b else if b.at_ < t then whereL t (some b) r else match p with | none => b | some a => amidV a b t
def whereV (ss : List SmpR) (t : Int) : SmpR := whereL t none ss
theorem whereL_cons (t : Int) (p : Option SmpR) (b : SmpR) (r : List SmpR) : whereL t p (b :: r) = if t = b.at_ then b else if b.at_ < t then whereL t (some b) r else match p with | none => b | some a => amidV a b t := by cases p <;> rfl
theorem where_next {t : Int} {xs : List SmpR} {k : Nat} {b R : SmpR} (hP : R = whereL t (ahead xs k) (xs.drop k)) (hb : xs[k]? = some b) (h : b.at_ < t) : R = whereL t (ahead xs (k + 1)) (xs.drop (k + 1)) := by
  rw [hP, drop_cons_get hb, whereL_cons, if_neg (by omega), if_pos h, ahead_succ hb]
theorem where_skip {t : Int} {xs : List SmpR} : ∀ (k : Nat), k ≤ xs.length → (∀ j b, j < k → xs[j]? = some b → b.at_ < t) → whereV xs t = whereL t (ahead xs k) (xs.drop k)
  | 0, _, _ => rfl
  | k + 1, hk, h => by
    have hb : xs[k]? = some (xs[k]'(by omega)) := List.getElem?_eq_getElem _
    exact where_next (where_skip k (by omega) (fun j b hj => h j b (by omega))) hb (h k _ (by omega) hb)
theorem where_hit {t : Int} {xs : List SmpR} {k : Nat} {b R : SmpR} (hP : R = whereL t (ahead xs k) (xs.drop k)) (hb : xs[k]? = some b) (h : t = b.at_) : R = b := by
  rw [hP, drop_cons_get hb, whereL_cons, if_pos h]
theorem where_seg {t : Int} {xs : List SmpR} {k : Nat} {a b R : SmpR} (hP : R = whereL t (ahead xs k) (xs.drop k)) (hk : 0 < k) (ha : xs[k - 1]? = some a) (hb : xs[k]? = some b) (h : t < b.at_) : R = amidV a b t := by
  rw [hP, drop_cons_get hb, whereL_cons, if_neg (by omega), if_neg (by omega), ahead_pos hk ha]
section
variable {st : Int} {ss : List SmpR} (hok : SmpOk st ss)
include hok
theorem at_up {i : Nat} {p : SmpR} (hp : ss[i]? = some p) : ∀ (d : Nat) (q : SmpR), ss[i + d]? = some q → p.at_ ≤ q.at_ ∧ (0 < d → p.at_ < q.at_)
  | 0, q, hq => by rw [Nat.add_zero, hp] at hq; cases hq; omega
  | d + 1, q, hq => by
    have hlt := (List.getElem?_eq_some_iff.1 hq).1
    have h1 : ss[i + d]? = some (ss[i + d]'(by omega)) := List.getElem?_eq_getElem _
    have h2 := (at_up hp d _ h1).1
    have h3 := hok.rise (i + d) _ q h1 hq
    omega
/-- From a place at which the second is not past. -/
theorem where_place {t : Int} {k : Nat} (hk : k ≤ ss.length) (h : k = 0 ∨ ∃ a, ss[k - 1]? = some a ∧ a.at_ < t) : whereV ss t = whereL t (ahead ss k) (ss.drop k) := by
  refine where_skip k hk fun j b hj hb => ?_
  rcases h with h | ⟨a, ha, hat⟩
  · omega
  · have := (at_up hok hb (k - 1 - j) a (by rw [show j + (k - 1 - j) = k - 1 by omega]; exact ha)).1
    omega
/-- The sample of a second that is there is a right one, but for its order. -/
theorem whereV_bd {t : Int} (h0 : 0 ≤ t) (h1 : t ≤ spanL ss) (hn : 0 < ss.length) : (whereV ss t).at_ = t ∧ (-100000000 ≤ (whereV ss t).x ∧ (whereV ss t).x ≤ 100000000) ∧ (-100000000 ≤ (whereV ss t).y ∧ (whereV ss t).y ≤ 100000000) ∧ (-100000 ≤ (whereV ss t).z ∧ (whereV ss t).z ≤ 100000) := by
  have key : ∀ (m k : Nat), k + m = ss.length → (k = 0 ∨ ∃ a, ss[k - 1]? = some a ∧ a.at_ < t) → ∃ k b, ss[k]? = some b ∧ t ≤ b.at_ ∧ (k = 0 ∨ ∃ a, ss[k - 1]? = some a ∧ a.at_ < t) := by
    intro m
    induction m with
    | zero =>
      intro k hk h
      rcases h with h | ⟨a, ha, hat⟩
      · omega
      · have := spanL_get ha (by have := (List.getElem?_eq_some_iff.1 ha).1; omega)
        omega
    | succ m ih =>
      intro k hk h
      have hb : ss[k]? = some (ss[k]'(by omega)) := List.getElem?_eq_getElem _
      by_cases h2 : t ≤ (ss[k]'(by omega)).at_
      · exact ⟨k, _, hb, h2, h⟩
      · exact ih (k + 1) (by omega) (.inr ⟨_, by rw [Nat.add_sub_cancel]; exact hb, by omega⟩)
  obtain ⟨k, b, hb, htb, hk⟩ := key ss.length 0 (by omega) (.inl rfl)
  have hP := where_place hok (k := k) (by have := (List.getElem?_eq_some_iff.1 hb).1; omega) hk
  have hbb := hok.bd b (List.mem_of_getElem? hb)
  by_cases h2 : t = b.at_
  · rw [where_hit hP hb h2]
    exact ⟨h2.symm, hbb.2.2.2.1, hbb.2.2.2.2.1, hbb.2.2.2.2.2.1⟩
  · rcases hk with hk | ⟨a, ha, hat⟩
    · subst hk
      have := hok.first b hb
      omega
    · by_cases hk0 : k = 0
      · subst hk0
        have := hok.first b hb
        omega
      · rw [where_seg hP (by omega) ha hb (by omega)]
        have hab := hok.bd a (List.mem_of_getElem? ha)
        have hn1 : 0 ≤ t - a.at_ := by omega
        have hd1 : 1 ≤ b.at_ - a.at_ := by omega
        have hnd : t - a.at_ ≤ b.at_ - a.at_ := by omega
        exact ⟨rfl, btw_bd hn1 hd1 hnd hab.2.2.2.1 hbb.2.2.2.1, btw_bd hn1 hd1 hnd hab.2.2.2.2.1 hbb.2.2.2.2.1, btw_bd hn1 hd1 hnd hab.2.2.2.2.2.1 hbb.2.2.2.2.2.1⟩
end
def zeroS : SmpR := ⟨0, 0, 0, 0, 0, 0, 0⟩
def atR (a : ActD) (t : Int) : SmpR × Int := if chkA a ≠ 0 then (zeroS, chkA a) else if a.ss.length = 0 then (zeroS, 13) else if ¬(0 ≤ t ∧ t ≤ spanL a.ss) then (zeroS, 9) else (whereV a.ss t, 0)
theorem atR_e {a : ActD} {t : Int} (h : chkA a ≠ 0) : atR a t = (zeroS, chkA a) := if_pos h
theorem atR_13 {a : ActD} {t : Int} (h : chkA a = 0) (h1 : a.ss.length = 0) : atR a t = (zeroS, 13) := by unfold atR; rw [if_neg (by simp [h]), if_pos h1]
theorem atR_9 {a : ActD} {t : Int} (h : chkA a = 0) (h1 : a.ss.length ≠ 0) (h2 : ¬(0 ≤ t ∧ t ≤ spanL a.ss)) : atR a t = (zeroS, 9) := by unfold atR; rw [if_neg (by simp [h]), if_neg h1, if_pos h2]
theorem atR_0 {a : ActD} {t : Int} (h : chkA a = 0) (h1 : a.ss.length ≠ 0) (h2 : 0 ≤ t ∧ t ≤ spanL a.ss) : atR a t = (whereV a.ss t, 0) := by unfold atR; rw [if_neg (by simp [h]), if_neg h1, if_neg (fun h3 => h3 h2)]
/-- The first k samples of those each so many seconds. -/
def reL (ss : List SmpR) (step : Int) (k : Nat) : List SmpR := (List.range k).map fun (i : Nat) => whereV ss ((i : Int) * step)
theorem reL_succ (ss : List SmpR) (step : Int) (k : Nat) : reL ss step (k + 1) = reL ss step k ++ [whereV ss ((k : Int) * step)] := by unfold reL; rw [List.range_succ, List.map_append]; rfl
theorem reL_len (ss : List SmpR) (step : Int) (k : Nat) : (reL ss step k).length = k := by simp [reL]
/-- How many lie ahead of the end. -/
def reN (ss : List SmpR) (step : Int) : Nat := ((spanL ss + step - 1) / step).toNat
theorem reN_iff {ss : List SmpR} {step : Int} (hs : 1 ≤ step) (h0 : 0 ≤ spanL ss) (k : Nat) : (k : Int) * step < spanL ss ↔ k < reN ss step := by
  unfold reN
  have h1 : 0 ≤ (spanL ss + step - 1) / step := Int.ediv_nonneg (by omega) (by omega)
  have h2 : ((k : Int) + 1 ≤ (spanL ss + step - 1) / step) ↔ ((k : Int) + 1) * step ≤ spanL ss + step - 1 := Int.le_ediv_iff_mul_le (by omega)
  rw [Int.add_mul, Int.one_mul] at h2
  omega
def resD (a : ActD) (step : Int) : ActD := if a.ss.length = 0 then a else ⟨a.name, a.sport, a.start, reL a.ss step (reN a.ss step) ++ [whereV a.ss (spanL a.ss)], a.ls, a.ts⟩
def resR (a : ActD) (step : Int) : ActD × Int :=
  if chkA a ≠ 0 then (noA, chkA a) else if ¬(1 ≤ step ∧ step ≤ 1000000) then (noA, 9) else if 0 < a.ss.length ∧ 20000 < (spanL a.ss + step - 1) / step + 1 then (noA, 3) else (resD a step, 0)
theorem resR_e {a : ActD} {t : Int} (h : chkA a ≠ 0) : resR a t = (noA, chkA a) := if_pos h
theorem resR_9 {a : ActD} {t : Int} (h : chkA a = 0) (h1 : ¬(1 ≤ t ∧ t ≤ 1000000)) : resR a t = (noA, 9) := by unfold resR; rw [if_neg (by simp [h]), if_pos h1]
theorem resR_3 {a : ActD} {t : Int} (h : chkA a = 0) (h1 : 1 ≤ t ∧ t ≤ 1000000) (h2 : 0 < a.ss.length ∧ 20000 < (spanL a.ss + t - 1) / t + 1) : resR a t = (noA, 3) := by unfold resR; rw [if_neg (by simp [h]), if_neg (fun h3 => h3 h1), if_pos h2]
theorem resR_0 {a : ActD} {t : Int} (h : chkA a = 0) (h1 : 1 ≤ t ∧ t ≤ 1000000) (h2 : ¬(0 < a.ss.length ∧ 20000 < (spanL a.ss + t - 1) / t + 1)) : resR a t = (resD a t, 0) := by unfold resR; rw [if_neg (by simp [h]), if_neg (fun h3 => h3 h1), if_neg h2]
/-- The samples between two seconds. -/
def innL (f t : Int) (l : List SmpR) : List SmpR := l.filter fun x => decide (f < x.at_) && decide (x.at_ < t)
theorem innL_yes {f t : Int} {l : List SmpR} {k : Nat} {x : SmpR} (h : l[k]? = some x) (hx : f < x.at_ ∧ x.at_ < t) : innL f t (l.take (k + 1)) = innL f t (l.take k) ++ [x] := by
  unfold innL; rw [take_succ_get h, List.filter_append]; simp [hx.1, hx.2]
theorem innL_no {f t : Int} {l : List SmpR} {k : Nat} {x : SmpR} (h : l[k]? = some x) (hx : ¬(f < x.at_ ∧ x.at_ < t)) : innL f t (l.take (k + 1)) = innL f t (l.take k) := by
  unfold innL; rw [take_succ_get h, List.filter_append]
  have : (decide (f < x.at_) && decide (x.at_ < t)) = false := by
    rw [← Bool.not_eq_true, Bool.and_eq_true, decide_eq_true_eq, decide_eq_true_eq]; exact hx
  simp [this]
theorem innL_len (f t : Int) (l : List SmpR) : (innL f t l).length ≤ l.length := List.length_filter_le _ _
def cutL (ss : List SmpR) (f t : Int) : List SmpR := (whereV ss f :: innL f t ss) ++ [whereV ss t]
def cutR (a : ActD) (f t : Int) : ActD × Int :=
  if chkA a ≠ 0 then (noA, chkA a) else if a.ss.length = 0 then (noA, 13) else if f < 0 ∨ t ≤ f ∨ spanL a.ss < t then (noA, 9) else partR a (cutL a.ss f t) f
theorem cutR_e {a : ActD} {f t : Int} (h : chkA a ≠ 0) : cutR a f t = (noA, chkA a) := if_pos h
theorem cutR_13 {a : ActD} {f t : Int} (h : chkA a = 0) (h1 : a.ss.length = 0) : cutR a f t = (noA, 13) := by unfold cutR; rw [if_neg (by simp [h]), if_pos h1]
theorem cutR_9 {a : ActD} {f t : Int} (h : chkA a = 0) (h1 : a.ss.length ≠ 0) (h2 : f < 0 ∨ t ≤ f ∨ spanL a.ss < t) : cutR a f t = (noA, 9) := by unfold cutR; rw [if_neg (by simp [h]), if_neg h1, if_pos h2]
theorem cutR_0 {a : ActD} {f t : Int} (h : chkA a = 0) (h1 : a.ss.length ≠ 0) (h2 : ¬(f < 0 ∨ t ≤ f ∨ spanL a.ss < t)) : cutR a f t = partR a (cutL a.ss f t) f := by unfold cutR; rw [if_neg (by simp [h]), if_neg h1, if_neg h2]
end Go.Proofs.Ytfbmkepogcimlaa

/-
  Lists in order, each element once: plain part.
-/

namespace Go.Proofs.Ytfbmkepogcimlaa
set_option linter.unusedVariables false
set_option linter.unusedSimpArgs false
theorem strict_unique {α : Type} {lt : α → α → Prop} (asym : ∀ a b, lt a b → ¬lt b a) : ∀ {xs ys : List α}, xs.Pairwise lt → ys.Pairwise lt → (∀ x, x ∈ xs ↔ x ∈ ys) → xs = ys
  | [], [], _, _, _ => rfl
  | [], y :: ys, _, _, h => by have := (h y).2 (by simp); simp at this
  | x :: xs, [], _, _, h => by have := (h x).1 (by simp); simp at this
  | x :: xs, y :: ys, hx, hy, h => by
    rw [List.pairwise_cons] at hx hy
    have irr : ∀ a, ¬lt a a := fun a ha => asym a a ha ha
    have hxy : x = y := by
      apply Classical.byContradiction
      intro hne
      have h1 : x ∈ ys := by
        rcases List.mem_cons.1 ((h x).1 (by simp)) with h2 | h2
        · exact absurd h2 hne
        · exact h2
      have h2 : y ∈ xs := by
        rcases List.mem_cons.1 ((h y).2 (by simp)) with h2 | h2
        · exact absurd h2.symm hne
        · exact h2
      exact asym _ _ (hx.1 y h2) (hy.1 x h1)
    subst hxy
    refine congrArg (x :: ·) (strict_unique asym hx.2 hy.2 fun a => ⟨fun ha => ?_, fun ha => ?_⟩)
    · rcases List.mem_cons.1 ((h a).1 (List.mem_cons_of_mem _ ha)) with h3 | h3
      · subst h3; exact absurd (hx.1 _ ha) (irr _)
      · exact h3
    · rcases List.mem_cons.1 ((h a).2 (List.mem_cons_of_mem _ ha)) with h3 | h3
      · subst h3; exact absurd (hy.1 _ ha) (irr _)
      · exact h3
section
variable {α : Type} [Inhabited α] [DecidableEq α]
omit [DecidableEq α] in
theorem toArray_get {zs : List α} {j : Nat} (h : j < zs.length) : zs.toArray[j]! = zs[j] := by simp [h]
theorem mem_compact {zs : List α} {x : α} : x ∈ Go.Lib.compact zs ↔ x ∈ zs := by
  unfold Go.Lib.compact Go.Lib.compactUpTo
  rw [List.mem_map]
  constructor
  · rintro ⟨j, hj, rfl⟩
    rw [List.mem_filter, List.mem_range] at hj
    rw [toArray_get hj.1]
    exact List.getElem_mem _
  · intro hx
    obtain ⟨j, hj, rfl⟩ := List.getElem_of_mem hx
    have key : ∀ j (hj : j < zs.length), ∃ i, i ∈ (List.range zs.length).filter (Go.Lib.keeps zs.toArray) ∧ zs.toArray[i]! = zs[j] := by
      intro j
      induction j with
      | zero => exact fun hj => ⟨0, List.mem_filter.2 ⟨List.mem_range.2 hj, by simp [Go.Lib.keeps]⟩, toArray_get hj⟩
      | succ j ih =>
        intro hj
        by_cases h : zs.toArray[j + 1]! = zs.toArray[j]!
        · obtain ⟨i, hi, he⟩ := ih (by omega)
          refine ⟨i, hi, ?_⟩
          rw [he, ← toArray_get hj, h, toArray_get (by omega)]
        · exact ⟨j + 1, List.mem_filter.2 ⟨List.mem_range.2 hj, by simp only [Go.Lib.keeps, Nat.add_sub_cancel]; exact decide_eq_true (.inr h)⟩, toArray_get hj⟩
    exact key j hj
theorem compact_strict {le : α → α → Prop} (refl : ∀ a, le a a) (anti : ∀ a b, le a b → le b a → a = b) {zs : List α} (h : zs.Pairwise le) : (Go.Lib.compact zs).Pairwise fun a b => le a b ∧ a ≠ b := by
  have hle : ∀ i j, (hij : i ≤ j) → (hj : j < zs.length) → le (zs[i]'(Nat.lt_of_le_of_lt hij hj)) zs[j] := fun i j hij hj => by
    by_cases h1 : i = j
    · subst h1; exact refl _
    · exact (List.pairwise_iff_getElem.1 h) i j (by omega) hj (by omega)
  unfold Go.Lib.compact Go.Lib.compactUpTo
  rw [List.pairwise_map]
  refine List.Pairwise.imp_of_mem ?_ ((List.pairwise_lt_range (n := zs.length)).filter _)
  intro i j hi hj hij
  rw [List.mem_filter, List.mem_range] at hi hj
  rw [toArray_get hi.1, toArray_get hj.1]
  refine ⟨hle i j (by omega) hj.1, fun he => ?_⟩
  have hk := hj.2
  simp only [Go.Lib.keeps, decide_eq_true_eq] at hk
  rcases hk with h0 | hk
  · omega
  · rw [toArray_get hj.1, toArray_get (show j - 1 < zs.length by omega)] at hk
    refine hk (anti _ _ ?_ (hle (j - 1) j (by omega) hj.1))
    rw [← he]
    exact hle i (j - 1) (by omega) (by omega)
end
theorem compact_len {α : Type} [Inhabited α] [DecidableEq α] (zs : List α) : (Go.Lib.compact zs).length ≤ zs.length := by
  unfold Go.Lib.compact Go.Lib.compactUpTo
  rw [List.length_map]
  exact Nat.le_trans (List.length_filter_le _ _) (by simp)
/-- Numbers in order, each once. -/
def ordI (xs : List Int) : List Int := Go.Lib.compact (xs.mergeSort fun x y => decide (x ≤ y))
theorem sortI_pair (xs : List Int) : (xs.mergeSort fun x y => decide (x ≤ y)).Pairwise (· ≤ ·) := by
  have h := List.pairwise_mergeSort (le := fun x y : Int => decide (x ≤ y)) (fun a b c h1 h2 => by simp at *; omega) (fun a b => by simp; omega) xs
  exact h.imp fun h => by simpa using h
theorem ordI_pair (xs : List Int) : (ordI xs).Pairwise (· < ·) :=
  (compact_strict (le := (· ≤ ·)) (fun a => Int.le_refl a) (fun a b h1 h2 => Int.le_antisymm h1 h2) (sortI_pair xs)).imp fun {a b} h => by have h1 := h.1; have h2 := h.2; omega
theorem mem_ordI {xs : List Int} {x : Int} : x ∈ ordI xs ↔ x ∈ xs := by rw [ordI, mem_compact, List.mem_mergeSort]
theorem ordI_of {xs ys : List Int} (h : ys.Pairwise (· < ·)) (hm : ∀ x, x ∈ ys ↔ x ∈ xs) : ordI xs = ys :=
  strict_unique (lt := (· < ·)) (fun a b h1 h2 => by omega) (ordI_pair xs) h fun x => by rw [mem_ordI, hm]
end Go.Proofs.Ytfbmkepogcimlaa

/-
  Join: plain part.
-/



namespace Go.Proofs.Ytfbmkepogcimlaa
open Go Hx
set_option linter.unusedVariables false
set_option linter.unusedSimpArgs false
/-! #### names in order -/
def bytesB (b : ByteArray) : List UInt8 := b.data.toList
def ofB (l : List UInt8) : ByteArray := ⟨l.toArray⟩
theorem ofB_bytesB (b : ByteArray) : ofB (bytesB b) = b := by simp [ofB, bytesB]
theorem bytesB_ofB (l : List UInt8) : bytesB (ofB l) = l := by simp [ofB, bytesB]
theorem bytesB_inj {x y : ByteArray} (h : bytesB x = bytesB y) : x = y := by rw [← ofB_bytesB x, h, ofB_bytesB]
theorem less_eq : ∀ (x y : List UInt8), Op.bytesLess x y = decide (x < y)
  | [], [] => by simp [Op.bytesLess]
  | _ :: _, [] => by simp [Op.bytesLess]
  | [], _ :: _ => by simp [Op.bytesLess]
  | a :: x, b :: y => by
    rw [Op.bytesLess, less_eq x y]
    simp only [List.cons_lt_cons_iff]
    by_cases h1 : a < b <;> by_cases h2 : a = b <;> by_cases h3 : x < y <;> simp [h1, h2, h3]
theorem sLt_iff {x y : ByteArray} : sLt x y = true ↔ bytesB x < bytesB y := by
  unfold sLt; rw [less_eq, ByteArray.toList_eq, ByteArray.toList_eq, decide_eq_true_iff]; rfl
theorem sEq_iff {x y : ByteArray} : sEq x y = true ↔ x = y := by
  unfold sEq
  rw [ByteArray.toList_eq, ByteArray.toList_eq, beq_iff_eq]
  exact ⟨fun h => bytesB_inj h, fun h => by rw [h]⟩
def ltB (x y : ByteArray) : Prop := bytesB x < bytesB y
theorem ltB_asym (x y : ByteArray) (h : ltB x y) : ¬ltB y x := fun h2 => List.lt_irrefl _ (List.lt_trans h h2)
theorem ltB_trans {x y z : ByteArray} (h : ltB x y) (h2 : ltB y z) : ltB x z := List.lt_trans h h2
theorem ltB_tri (x y : ByteArray) (h : ¬ltB x y) (h2 : x ≠ y) : ltB y x := by
  apply Classical.byContradiction
  intro h3
  exact h2 (bytesB_inj (List.le_antisymm (List.not_lt.1 h3) (List.not_lt.1 h)))
/-- The names of a right activity. -/
theorem tags_up {a : ActD} (hg : GoodA a) : a.ts.Pairwise ltB := by
  have step : ∀ (k : Nat) (x y : ByteArray), a.ts[k]? = some x → a.ts[k + 1]? = some y → ltB x y := fun k x y hx hy => by
    have h := chkE_ok hg.t hy
    rw [ahead_succ hx] at h
    unfold fT at h
    by_cases h1 : nameB y = false
    · rw [if_pos h1] at h; omega
    · rw [if_neg h1] at h
      by_cases h2 : ordT (some x) y = true
      · rw [if_pos h2] at h; omega
      · have h3 : sLe y x ≠ true := h2
        unfold sLe at h3
        rw [Ne, Bool.or_eq_true, not_or] at h3
        exact ltB_tri y x (fun h4 => h3.1 (sLt_iff.2 h4)) (fun h4 => h3.2 (sEq_iff.2 h4))
  have far : ∀ (d k : Nat) (x y : ByteArray), a.ts[k]? = some x → a.ts[k + d + 1]? = some y → ltB x y := by
    intro d
    induction d with
    | zero => exact step
    | succ d ih =>
      intro k x y hx hy
      have hlt := (List.getElem?_eq_some_iff.1 hy).1
      have hz := List.getElem?_eq_getElem (l := a.ts) (i := k + d + 1) (by omega)
      exact ltB_trans (ih k x _ hx hz) (step _ _ _ hz hy)
  rw [List.pairwise_iff_getElem]
  intro i j hi hj hij
  exact far (j - i - 1) i _ _ (List.getElem?_eq_getElem hi) (by rw [show i + (j - i - 1) + 1 = j by omega]; exact List.getElem?_eq_getElem hj)
/-- The names of both, as the reference does it. -/
def tagR : List ByteArray → List ByteArray → List ByteArray
  | [], b => b
  | x :: a, [] => x :: a
  | x :: a, y :: b => if sLt x y = true then x :: tagR a (y :: b) else if sEq x y = true then y :: tagR a b else y :: tagR (x :: a) b
termination_by a b => a.length + b.length
theorem tagR_nil (b : List ByteArray) : tagR [] b = b := by rw [tagR]
theorem tagR_nilr : ∀ a : List ByteArray, tagR a [] = a
  | [] => by rw [tagR]
  | x :: a => by rw [tagR]
theorem tagR_a {x y : ByteArray} {a b : List ByteArray} (h : sLt x y = true) : tagR (x :: a) (y :: b) = x :: tagR a (y :: b) := by rw [tagR, if_pos h]
theorem tagR_e {x y : ByteArray} {a b : List ByteArray} (h : ¬sLt x y = true) (h2 : sEq x y = true) : tagR (x :: a) (y :: b) = y :: tagR a b := by rw [tagR, if_neg h, if_pos h2]
theorem tagR_b {x y : ByteArray} {a b : List ByteArray} (h : ¬sLt x y = true) (h2 : ¬sEq x y = true) : tagR (x :: a) (y :: b) = y :: tagR (x :: a) b := by rw [tagR, if_neg h, if_neg h2]
theorem mem_tagR : ∀ (a b : List ByteArray) (s : ByteArray), s ∈ tagR a b ↔ s ∈ a ∨ s ∈ b
  | [], b, s => by rw [tagR_nil]; simp
  | x :: a, [], s => by rw [tagR_nilr]; simp
  | x :: a, y :: b, s => by
    by_cases h1 : sLt x y = true
    · rw [tagR_a h1, List.mem_cons, mem_tagR a (y :: b) s, List.mem_cons (a := s) (b := x), or_assoc]
    · by_cases h2 : sEq x y = true
      · have he := sEq_iff.1 h2
        subst he
        rw [tagR_e h1 h2, List.mem_cons, mem_tagR a b s, List.mem_cons, List.mem_cons]
        constructor
        · rintro (h | h | h)
          · exact .inl (.inl h)
          · exact .inl (.inr h)
          · exact .inr (.inr h)
        · rintro ((h | h) | (h | h))
          · exact .inl h
          · exact .inr (.inl h)
          · exact .inl h
          · exact .inr (.inr h)
      · rw [tagR_b h1 h2, List.mem_cons, mem_tagR (x :: a) b s, List.mem_cons (a := s) (b := y)]
        constructor
        · rintro (h | h | h)
          · exact .inr (.inl h)
          · exact .inl h
          · exact .inr (.inr h)
        · rintro (h | h | h)
          · exact .inr (.inl h)
          · exact .inl h
          · exact .inr (.inr h)
termination_by a b => a.length + b.length
theorem tagR_up : ∀ (a b : List ByteArray), a.Pairwise ltB → b.Pairwise ltB → (tagR a b).Pairwise ltB
  | [], b, _, hb => by rw [tagR_nil]; exact hb
  | x :: a, [], ha, _ => by rw [tagR_nilr]; exact ha
  | x :: a, y :: b, ha, hb => by
    have ha' := List.pairwise_cons.1 ha
    have hb' := List.pairwise_cons.1 hb
    by_cases h1 : sLt x y = true
    · have h0 : ltB x y := sLt_iff.1 h1
      rw [tagR_a h1, List.pairwise_cons]
      refine ⟨fun s hs => ?_, tagR_up a (y :: b) ha'.2 hb⟩
      rcases (mem_tagR _ _ _).1 hs with h | h
      · exact ha'.1 s h
      · rcases List.mem_cons.1 h with h | h
        · subst h; exact h0
        · exact ltB_trans h0 (hb'.1 s h)
    · by_cases h2 : sEq x y = true
      · have he := sEq_iff.1 h2
        subst he
        rw [tagR_e h1 h2, List.pairwise_cons]
        refine ⟨fun s hs => ?_, tagR_up a b ha'.2 hb'.2⟩
        rcases (mem_tagR _ _ _).1 hs with h | h
        · exact ha'.1 s h
        · exact hb'.1 s h
      · have h0 : ltB y x := ltB_tri x y (fun h => h1 (sLt_iff.2 h)) (fun h => h2 (sEq_iff.2 h))
        rw [tagR_b h1 h2, List.pairwise_cons]
        refine ⟨fun s hs => ?_, tagR_up (x :: a) b ha hb'.2⟩
        rcases (mem_tagR _ _ _).1 hs with h | h
        · rcases List.mem_cons.1 h with h | h
          · subst h; exact h0
          · exact ltB_trans h0 (ha'.1 s h)
        · exact hb'.1 s h
termination_by a b => a.length + b.length
theorem tagR_len : ∀ (a b : List ByteArray), (tagR a b).length ≤ a.length + b.length
  | [], b => by rw [tagR_nil]; simp
  | x :: a, [] => by rw [tagR_nilr]; simp
  | x :: a, y :: b => by
    by_cases h1 : sLt x y = true
    · rw [tagR_a h1]; have := tagR_len a (y :: b); simp only [List.length_cons] at *; omega
    · by_cases h2 : sEq x y = true
      · rw [tagR_e h1 h2]; have := tagR_len a b; simp only [List.length_cons] at *; omega
      · rw [tagR_b h1 h2]; have := tagR_len (x :: a) b; simp only [List.length_cons] at *; omega
termination_by a b => a.length + b.length
/-- .. and as the program does it. -/
def ordBA (xs : List ByteArray) : List ByteArray := (Go.Lib.compact ((xs.map bytesB).mergeSort fun x y => decide (x ≤ y))).map ofB
theorem sortB_pair (xs : List (List UInt8)) : (xs.mergeSort fun x y => decide (x ≤ y)).Pairwise (· ≤ ·) := by
  have h := List.pairwise_mergeSort (le := fun x y : List UInt8 => decide (x ≤ y)) (fun a b c h1 h2 => decide_eq_true (List.le_trans (of_decide_eq_true h1) (of_decide_eq_true h2))) (fun a b => by
    rcases List.le_total a b with h | h
    · simp [h]
    · simp [h]) xs
  exact h.imp fun h => of_decide_eq_true h
theorem ordBA_up (xs : List ByteArray) : (ordBA xs).Pairwise ltB := by
  unfold ordBA
  rw [List.pairwise_map]
  refine (compact_strict (le := (· ≤ ·)) (fun a => List.le_refl a) (fun a b h1 h2 => List.le_antisymm h1 h2) (sortB_pair (xs.map bytesB))).imp fun {a b} h => ?_
  show bytesB (ofB a) < bytesB (ofB b)
  rw [bytesB_ofB, bytesB_ofB]
  apply Decidable.byContradiction
  intro h3
  exact h.2 (List.le_antisymm h.1 (List.not_lt.1 h3))
theorem mem_ordBA {xs : List ByteArray} {x : ByteArray} : x ∈ ordBA xs ↔ x ∈ xs := by
  unfold ordBA
  rw [List.mem_map]
  constructor
  · rintro ⟨l, hl, rfl⟩
    rw [mem_compact, List.mem_mergeSort, List.mem_map] at hl
    obtain ⟨y, hy, rfl⟩ := hl
    rw [ofB_bytesB]; exact hy
  · intro h
    exact ⟨bytesB x, by rw [mem_compact, List.mem_mergeSort]; exact List.mem_map_of_mem h, ofB_bytesB x⟩
theorem ordBA_eq {a b : List ByteArray} (ha : a.Pairwise ltB) (hb : b.Pairwise ltB) : ordBA (a ++ b) = tagR a b :=
  strict_unique (lt := ltB) ltB_asym (ordBA_up _) (tagR_up a b ha hb) fun s => by rw [mem_ordBA, mem_tagR, List.mem_append]
/-! #### samples and laps -/
def SmpR.fwd (by_ : Int) (x : SmpR) : SmpR := ⟨x.at_ + by_, x.x, x.y, x.z, x.pulse, x.power, x.steps⟩
def LapR.fwd (by_ : Int) (x : LapR) : LapR := ⟨x.from_ + by_, x.to + by_, x.name⟩
def joinK (az bs : List SmpR) (by_ : Int) : Nat → List SmpR
  | 0 => az
  | k + 1 => match bs[k]? with
    | some s => if 0 < k ∨ az.length = 0 ∨ spanL az < s.at_ + by_ then joinK az bs by_ k ++ [s.fwd by_] else joinK az bs by_ k
    | none => joinK az bs by_ k
theorem joinK_yes {az bs : List SmpR} {by_ : Int} {k : Nat} {s : SmpR} (h : bs[k]? = some s) (hc : 0 < k ∨ az.length = 0 ∨ spanL az < s.at_ + by_) : joinK az bs by_ (k + 1) = joinK az bs by_ k ++ [s.fwd by_] := by rw [joinK, h]; exact if_pos hc
theorem joinK_no {az bs : List SmpR} {by_ : Int} {k : Nat} {s : SmpR} (h : bs[k]? = some s) (hc : ¬(0 < k ∨ az.length = 0 ∨ spanL az < s.at_ + by_)) : joinK az bs by_ (k + 1) = joinK az bs by_ k := by rw [joinK, h]; exact if_neg hc
theorem joinK_len (az bs : List SmpR) (by_ : Int) : ∀ k, (joinK az bs by_ k).length ≤ az.length + k
  | 0 => Nat.le_refl _
  | k + 1 => by
    have ih := joinK_len az bs by_ k
    cases h : bs[k]? with
    | none => rw [joinK, h]; show (joinK az bs by_ k).length ≤ _; omega
    | some s =>
      by_cases hc : 0 < k ∨ az.length = 0 ∨ spanL az < s.at_ + by_
      · rw [joinK_yes h hc, List.length_append]; simp only [List.length_cons, List.length_nil]; omega
      · rw [joinK_no h hc]; omega
theorem last_snoc {α : Type} (l : List α) (x : α) : (l ++ [x])[(l ++ [x]).length - 1]? = some x := by simp
/-- The last one so far, behind the first round. -/
theorem join_last {st st' by_ : Int} {az bs : List SmpR} (ha : SmpOk st az) (hb : SmpOk st' bs) (hby : spanL az ≤ by_) : ∀ k, 0 < k → k ≤ bs.length → ∃ x y, (joinK az bs by_ k)[(joinK az bs by_ k).length - 1]? = some x ∧ bs[k - 1]? = some y ∧ x.at_ = y.at_ + by_
  | 0, h, _ => by omega
  | k + 1, _, hk => by
    have hy := List.getElem?_eq_getElem (l := bs) (i := k) (by omega)
    by_cases hc : 0 < k ∨ az.length = 0 ∨ spanL az < bs[k].at_ + by_
    · rw [joinK_yes hy hc]
      exact ⟨_, _, last_snoc _ _, hy, rfl⟩
    · rw [joinK_no hy hc]
      have hk0 : k = 0 := by omega
      subst hk0
      have hz := hb.first _ hy
      have hx := List.getElem?_eq_getElem (l := az) (i := az.length - 1) (by omega)
      have hs := spanL_get hx (by omega)
      refine ⟨_, _, hx, hy, ?_⟩
      rw [← hs]; omega
/-- The program asks another question, with the same answer. -/
theorem join_cond {st st' by_ : Int} {az bs : List SmpR} (ha : SmpOk st az) (hb : SmpOk st' bs) (hby : spanL az ≤ by_) {k : Nat} {s : SmpR} (hs : bs[k]? = some s) :
    ((joinK az bs by_ k).length = 0 ∨ ∀ x, (joinK az bs by_ k)[(joinK az bs by_ k).length - 1]? = some x → x.at_ ≠ s.at_ + by_) ↔ (0 < k ∨ az.length = 0 ∨ spanL az < s.at_ + by_) := by
  have hlt := (List.getElem?_eq_some_iff.1 hs).1
  by_cases h0 : k = 0
  · subst h0
    have hz := hb.first _ hs
    show (az.length = 0 ∨ ∀ x, az[az.length - 1]? = some x → x.at_ ≠ s.at_ + by_) ↔ _
    constructor
    · rintro (h | h)
      · exact .inr (.inl h)
      · by_cases hl : az.length = 0
        · exact .inr (.inl hl)
        · have hx := List.getElem?_eq_getElem (l := az) (i := az.length - 1) (by omega)
          have h1 := h _ hx
          have h2 := spanL_get hx (by omega)
          exact .inr (.inr (by omega))
    · rintro (h | h | h)
      · omega
      · exact .inl h
      · refine .inr fun x hx => ?_
        have hl := (List.getElem?_eq_some_iff.1 hx).1
        have h2 := spanL_get hx (by omega)
        omega
  · refine ⟨fun _ => .inl (by omega), fun _ => .inr fun x hx => ?_⟩
    obtain ⟨x', y, h1, h2, h3⟩ := join_last ha hb hby k (by omega) (by omega)
    rw [hx] at h1; cases h1
    have := hb.rise (k - 1) y s h2 (by rw [show k - 1 + 1 = k by omega]; exact hs)
    omega
def fwdL (by_ : Int) (l : List LapR) : List LapR := l.map (LapR.fwd by_)
theorem fwdL_succ {by_ : Int} {l : List LapR} {k : Nat} {x : LapR} (h : l[k]? = some x) : fwdL by_ (l.take (k + 1)) = fwdL by_ (l.take k) ++ [x.fwd by_] := by
  unfold fwdL; rw [take_succ_get h, List.map_append]; rfl
def joinD (a b : ActD) : ActD := ⟨a.name, a.sport, a.start, joinK a.ss b.ss (b.start - a.start) b.ss.length, a.ls ++ fwdL (b.start - a.start) b.ls, tagR a.ts b.ts⟩
/-- What Join returns. -/
def joinR (a b : ActD) : ActD × Int :=
  if chkA a ≠ 0 then (noA, chkA a) else if chkA b ≠ 0 then (noA, chkA b)
  else if a.sport ≠ b.sport then (noA, 7) else if b.start - a.start < spanL a.ss then (noA, 11)
  else if 20000 < (joinD a b).ss.length ∨ 200 < (joinD a b).ls.length ∨ 20 < (joinD a b).ts.length then (noA, 3)
  else if chkA (joinD a b) ≠ 0 then (noA, chkA (joinD a b)) else (joinD a b, 0)
section
variable {a b : ActD}
theorem joinR_a (h : chkA a ≠ 0) : joinR a b = (noA, chkA a) := if_pos h
theorem joinR_b (h : ¬chkA a ≠ 0) (h2 : chkA b ≠ 0) : joinR a b = (noA, chkA b) := by rw [joinR, if_neg h, if_pos h2]
theorem joinR_7 (h : ¬chkA a ≠ 0) (h2 : ¬chkA b ≠ 0) (h3 : a.sport ≠ b.sport) : joinR a b = (noA, 7) := by rw [joinR, if_neg h, if_neg h2, if_pos h3]
theorem joinR_11 (h : ¬chkA a ≠ 0) (h2 : ¬chkA b ≠ 0) (h3 : ¬a.sport ≠ b.sport) (h4 : b.start - a.start < spanL a.ss) : joinR a b = (noA, 11) := by rw [joinR, if_neg h, if_neg h2, if_neg h3, if_pos h4]
theorem joinR_d (h : ¬chkA a ≠ 0) (h2 : ¬chkA b ≠ 0) (h3 : ¬a.sport ≠ b.sport) (h4 : ¬b.start - a.start < spanL a.ss) : joinR a b = if 20000 < (joinD a b).ss.length ∨ 200 < (joinD a b).ls.length ∨ 20 < (joinD a b).ts.length then (noA, 3) else if chkA (joinD a b) ≠ 0 then (noA, chkA (joinD a b)) else (joinD a b, 0) := by rw [joinR, if_neg h, if_neg h2, if_neg h3, if_neg h4]
end
end Go.Proofs.Ytfbmkepogcimlaa

/-
  An activity cut at a sample: plain part: samples, laps, names.
-/


namespace Go.Proofs.Ytfbmkepogcimlaa
open Go Hx
set_option linter.unusedVariables false
set_option linter.unusedSimpArgs false
theorem smp_chkT {st : Int} {ss : List SmpR} (h : SmpOk st ss) : chkE (fS st) none ss = 0 := by
  have key : ∀ k, k ≤ ss.length → chkE (fS st) none ss = chkE (fS st) (ahead ss k) (ss.drop k) := by
    intro k
    induction k with
    | zero => intro _; exact chkE_start _ _
    | succ k ih =>
      intro hk
      have hx : ss[k]? = some (ss[k]'(by omega)) := List.getElem?_eq_getElem _
      refine chkE_next (ih (by omega)) hx ?_
      have hb := h.bd _ (List.mem_of_getElem? hx)
      have ho : ordS (ahead ss k) (ss[k]'(by omega)) = false := by
        cases k with
        | zero => rw [ahead_zero]; exact decide_eq_false (by have := h.first _ hx; omega)
        | succ m =>
          have hy : ss[m]? = some (ss[m]'(by omega)) := List.getElem?_eq_getElem _
          rw [ahead_succ hy]
          exact decide_eq_false (by have := h.rise m _ _ hy hx; omega)
      have hi : smpIn (ss[k]'(by omega)) = true := by
        unfold smpIn
        simp only [Bool.and_eq_true]
        exact ⟨⟨⟨inB_iff.2 hb.2.2.2.1, inB_iff.2 hb.2.2.2.2.1⟩, inB_iff.2 hb.2.2.2.2.2.1⟩, ⟨inB_iff.2 hb.2.2.2.2.2.2.1, inB_iff.2 hb.2.2.2.2.2.2.2.1⟩, inB_iff.2 hb.2.2.2.2.2.2.2.2⟩
      unfold fS
      rw [if_neg (by rw [ho]; simp), if_neg]
      rintro (h | h | h)
      · omega
      · omega
      · rw [hi] at h; cases h
  exact chkE_end (key ss.length (Nat.le_refl _)) (Nat.le_refl _)
theorem riseT {st : Int} {ss : List SmpR} (h : SmpOk st ss) : ∀ (d i : Nat) (x y : SmpR), ss[i]? = some x → ss[i + d + 1]? = some y → x.at_ < y.at_
  | 0, i, x, y, hx, hy => h.rise i x y hx hy
  | d + 1, i, x, y, hx, hy => by
    have hlt : i + d + 1 < ss.length := by have := (List.getElem?_eq_some_iff.1 hy).1; omega
    have hz := List.getElem?_eq_getElem hlt
    have h1 := riseT h d i x _ hx hz
    have h2 := h.rise _ _ _ hz (by rw [show i + d + 1 + 1 = i + (d + 1) + 1 by omega]; exact hy)
    omega
theorem upT {st : Int} {ss : List SmpR} (h : SmpOk st ss) {i j : Nat} {x y : SmpR} (hij : i < j) (hx : ss[i]? = some x) (hy : ss[j]? = some y) : x.at_ < y.at_ :=
  riseT h (j - i - 1) i x y hx (by rw [show i + (j - i - 1) + 1 = j by omega]; exact hy)
def pcS (ss : List SmpR) (i m : Nat) : List SmpR := (ss.drop i).take m
theorem pcS_get {ss : List SmpR} {i m k : Nat} {x : SmpR} (h : (pcS ss i m)[k]? = some x) : ss[i + k]? = some x ∧ k < m := by
  unfold pcS at h
  rw [List.getElem?_take] at h
  split at h
  · rw [List.getElem?_drop] at h; exact ⟨h, by assumption⟩
  · cases h
theorem pcS_at {ss : List SmpR} {i m k : Nat} (h : k < m) : (pcS ss i m)[k]? = ss[i + k]? := by
  unfold pcS; rw [List.getElem?_take, if_pos h, List.getElem?_drop]
theorem pcS_len {ss : List SmpR} {i m : Nat} (h : i + m ≤ ss.length) : (pcS ss i m).length = m := by
  unfold pcS; rw [List.length_take, List.length_drop]; omega
theorem where_atT {st : Int} {ss : List SmpR} (h : SmpOk st ss) {i : Nat} {x : SmpR} (hx : ss[i]? = some x) : whereV ss x.at_ = x := by
  have hl := (List.getElem?_eq_some_iff.1 hx).1
  rw [where_skip i (by omega) (fun j b hj hb => upT h hj hb hx), drop_cons_get hx, whereL_cons, if_pos rfl]
theorem cut_pc {st : Int} {ss : List SmpR} (h : SmpOk st ss) {i j : Nat} {x y : SmpR} (hij : i < j) (hx : ss[i]? = some x) (hy : ss[j]? = some y) : cutL ss x.at_ y.at_ = pcS ss i (j - i + 1) := by
  have hjl := (List.getElem?_eq_some_iff.1 hy).1
  have hin : innL x.at_ y.at_ ss = pcS ss (i + 1) (j - i - 1) := by
    have e1 : ss = ss.take (i + 1) ++ (pcS ss (i + 1) (j - i - 1) ++ ss.drop j) := by
      unfold pcS
      have e2 : ss.drop j = (ss.drop (i + 1)).drop (j - i - 1) := by rw [List.drop_drop]; congr 1; omega
      rw [e2, List.take_append_drop, List.take_append_drop]
    have f1 : (ss.take (i + 1)).filter (fun z => decide (x.at_ < z.at_) && decide (z.at_ < y.at_)) = [] := by
      rw [List.filter_eq_nil_iff]
      intro z hz
      obtain ⟨k, hk⟩ := List.mem_iff_getElem?.1 hz
      have hkl := (List.getElem?_eq_some_iff.1 hk).1
      rw [List.length_take] at hkl
      rw [List.getElem?_take, if_pos (by omega)] at hk
      have : z.at_ ≤ x.at_ := by
        by_cases e : k = i
        · subst e; rw [hx] at hk; cases hk; exact Int.le_refl _
        · have := upT h (show k < i by omega) hk hx; omega
      simp; omega
    have f2 : (pcS ss (i + 1) (j - i - 1)).filter (fun z => decide (x.at_ < z.at_) && decide (z.at_ < y.at_)) = pcS ss (i + 1) (j - i - 1) := by
      rw [List.filter_eq_self]
      intro z hz
      obtain ⟨k, hk⟩ := List.mem_iff_getElem?.1 hz
      have h1 := pcS_get hk
      have h2 := upT h (show i < i + 1 + k by omega) hx h1.1
      have h3 := upT h (show i + 1 + k < j by omega) h1.1 hy
      simp; omega
    have f3 : (ss.drop j).filter (fun z => decide (x.at_ < z.at_) && decide (z.at_ < y.at_)) = [] := by
      rw [List.filter_eq_nil_iff]
      intro z hz
      obtain ⟨k, hk⟩ := List.mem_iff_getElem?.1 hz
      rw [List.getElem?_drop] at hk
      have : y.at_ ≤ z.at_ := by
        by_cases e : k = 0
        · subst e; rw [Nat.add_zero, hy] at hk; cases hk; exact Int.le_refl _
        · have := upT h (show j < j + k by omega) hy hk; omega
      simp; omega
    have e3 := congrArg (List.filter (fun z => decide (x.at_ < z.at_) && decide (z.at_ < y.at_))) e1
    rw [List.filter_append, List.filter_append, f1, f2, f3, List.nil_append, List.append_nil] at e3
    exact e3
  unfold cutL
  rw [where_atT h hx, where_atT h hy, hin]
  unfold pcS
  rw [drop_cons_get hx, List.take_succ_cons, List.cons_append]
  congr 1
  have e4 : (ss.drop (i + 1))[j - i - 1]? = some y := by rw [List.getElem?_drop, show i + 1 + (j - i - 1) = j by omega]; exact hy
  have e5 := take_succ_get e4
  rw [show j - i - 1 + 1 = j - i by omega] at e5
  exact e5.symm
theorem backS_get {b : Int} {l : List SmpR} {k : Nat} {x : SmpR} (h : (backS b l)[k]? = some x) : ∃ y, l[k]? = some y ∧ x = y.back b := by
  unfold backS at h
  rw [List.getElem?_map] at h
  cases hy : l[k]? with
  | none => rw [hy] at h; cases h
  | some y => rw [hy] at h; exact ⟨y, rfl, (Option.some.inj h).symm⟩
theorem pc_ok {st : Int} {ss : List SmpR} (h : SmpOk st ss) {i m : Nat} {x : SmpR} (hx : ss[i]? = some x) (hm : i + m ≤ ss.length) : SmpOk (st + x.at_) (backS x.at_ (pcS ss i m)) := by
  have hl : (backS x.at_ (pcS ss i m)).length = m := by unfold backS; rw [List.length_map, pcS_len hm]
  have hlen := h.len
  refine ⟨by omega, fun z hz => ?_, fun k z u hz hu => ?_, fun z hz => ?_⟩
  · obtain ⟨y, hy, rfl⟩ := backS_get hz
    have h1 := pcS_get hy
    rw [Nat.add_zero, hx] at h1
    cases h1.1
    show x.at_ - x.at_ = 0
    omega
  · obtain ⟨y, hy, rfl⟩ := backS_get hz
    obtain ⟨v, hv, rfl⟩ := backS_get hu
    have := upT h (show i + k < i + (k + 1) by omega) (pcS_get hy).1 (pcS_get hv).1
    show y.at_ - x.at_ < v.at_ - x.at_
    omega
  · obtain ⟨k, hk⟩ := List.mem_iff_getElem?.1 hz
    obtain ⟨y, hy, rfl⟩ := backS_get hk
    have h1 := (pcS_get hy).1
    have hb := h.bd y (List.mem_of_getElem? h1)
    have hbx := h.bd x (List.mem_of_getElem? hx)
    have hge : x.at_ ≤ y.at_ := by
      by_cases e : k = 0
      · subst e; rw [Nat.add_zero, hx] at h1; cases h1; exact Int.le_refl _
      · have := upT h (show i < i + k by omega) hx h1; omega
    refine ⟨?_, ?_, ?_, hb.2.2.2⟩
    · show 0 ≤ y.at_ - x.at_; omega
    · show y.at_ - x.at_ ≤ 1000000; omega
    · show st + x.at_ + (y.at_ - x.at_) ≤ 86399999999; omega
theorem pc_span {ss : List SmpR} {i m : Nat} {x y : SmpR} (hm : i + m + 1 ≤ ss.length) (hy : ss[i + m]? = some y) : spanL (backS x.at_ (pcS ss i (m + 1))) = y.at_ - x.at_ := by
  have hl : (backS x.at_ (pcS ss i (m + 1))).length = m + 1 := by unfold backS; rw [List.length_map, pcS_len (by omega)]
  have : (backS x.at_ (pcS ss i (m + 1)))[m]? = some (y.back x.at_) := by
    unfold backS
    rw [List.getElem?_map, pcS_at (by omega), hy]; rfl
  rw [spanL_get this (by omega)]; rfl
/-! #### laps -/
structure LapP (sp : Int) (x : LapR) : Prop where
  lo : 0 ≤ x.from_
  lt : x.from_ < x.to
  hi : x.to ≤ sp
  nm : ¬titleB x.name = false
theorem fL_iff {sp : Int} {p : Option LapR} {x : LapR} : fL sp p x = 0 ↔ LapP sp x ∧ ¬ordL p x = true := by
  unfold fL
  constructor
  · intro h
    by_cases h1 : x.from_ < 0 ∨ x.to ≤ x.from_ ∨ sp < x.to
    · rw [if_pos h1] at h; omega
    · rw [if_neg h1] at h
      by_cases h2 : ordL p x = true
      · rw [if_pos h2] at h; omega
      · rw [if_neg h2] at h
        by_cases h3 : titleB x.name = false
        · rw [if_pos h3] at h; omega
        · exact ⟨⟨by omega, by omega, by omega, h3⟩, h2⟩
  · rintro ⟨⟨h1, h2, h3, h4⟩, h5⟩
    rw [if_neg (by omega), if_neg h5, if_neg h4]
theorem laps_of {sp : Int} : ∀ {ls : List LapR} {p : Option LapR}, chkE (fL sp) p ls = 0 → (∀ x ∈ ls, LapP sp x) ∧ ls.Pairwise (fun x y => x.to ≤ y.from_) ∧ ∀ y, p = some y → ∀ x ∈ ls, y.to ≤ x.from_
  | [], p, _ => ⟨fun x h => (by cases h), List.Pairwise.nil, fun y _ x h => (by cases h)⟩
  | z :: r, p, h => by
    rw [chkE_cons] at h
    by_cases h0 : fL sp p z ≠ 0
    · rw [if_pos h0] at h; exact absurd h h0
    · rw [if_neg h0] at h
      obtain ⟨i1, i2, i3⟩ := laps_of h
      have h1 := fL_iff.1 (Decidable.not_not.1 h0)
      refine ⟨fun x hx => ?_, List.pairwise_cons.2 ⟨fun x hx => i3 z rfl x hx, i2⟩, fun y hy x hx => ?_⟩
      · rcases List.mem_cons.1 hx with rfl | hx
        · exact h1.1
        · exact i1 x hx
      · subst hy
        have h2 : y.to ≤ z.from_ := by
          have h5 := h1.2
          unfold ordL at h5
          simp at h5
          exact h5
        rcases List.mem_cons.1 hx with rfl | hx
        · exact h2
        · have := i3 z rfl x hx; have := h1.1.lt; omega
theorem laps_to {sp : Int} : ∀ {ls : List LapR} {p : Option LapR}, (∀ x ∈ ls, LapP sp x) → ls.Pairwise (fun x y => x.to ≤ y.from_) → (∀ y, p = some y → ∀ x ∈ ls, y.to ≤ x.from_) → chkE (fL sp) p ls = 0
  | [], p, _, _, _ => rfl
  | z :: r, p, h1, h2, h3 => by
    have hp := List.pairwise_cons.1 h2
    have hz : fL sp p z = 0 := fL_iff.2 ⟨h1 z (List.mem_cons_self ..), by
      cases p with
      | none => simp [ordL]
      | some y =>
        have := h3 y rfl z (List.mem_cons_self ..)
        simp [ordL]; omega⟩
    rw [chkE_cons, if_neg (by rw [hz]; simp)]
    exact laps_to (fun x hx => h1 x (List.mem_cons_of_mem _ hx)) hp.2 (fun y hy x hx => by cases hy; exact hp.1 x hx)
theorem lapAt_mono {b sp m n : Int} (h : m ≤ n) : lapAt b sp m ≤ lapAt b sp n := by unfold lapAt; omega
theorem backL_ok {sp b sp' : Int} {ls : List LapR} (h0 : 0 ≤ sp') (h1 : ∀ x ∈ ls, LapP sp x) (h2 : ls.Pairwise (fun x y => x.to ≤ y.from_)) : (∀ x ∈ backL b sp' ls, LapP sp' x) ∧ (backL b sp' ls).Pairwise (fun x y => x.to ≤ y.from_) := by
  constructor
  · intro x hx
    unfold backL at hx
    obtain ⟨hm, hf⟩ := List.mem_filter.1 hx
    obtain ⟨y, hy, rfl⟩ := List.mem_map.1 hm
    have hlt := of_decide_eq_true hf
    have := h1 y hy
    refine ⟨?_, hlt, ?_, this.nm⟩
    · show 0 ≤ lapAt b sp' y.from_; unfold lapAt; omega
    · show lapAt b sp' y.to ≤ sp'; unfold lapAt; omega
  · unfold backL
    refine List.Pairwise.filter _ ?_
    rw [List.pairwise_map]
    exact h2.imp fun {x y} h => lapAt_mono h
theorem backL_count {t sp sp1 sp2 : Int} (e1 : sp1 = t) (e2 : sp2 = sp - t) : ∀ {ls : List LapR}, (∀ x ∈ ls, LapP sp x) → ls.Pairwise (fun x y => x.to ≤ y.from_) → (backL 0 sp1 ls).length + (backL t sp2 ls).length ≤ ls.length + 1
  | [], _, _ => Nat.zero_le _
  | z :: r, h1, h2 => by
    have hp := List.pairwise_cons.1 h2
    have hz := h1 z (List.mem_cons_self ..)
    have ih := backL_count e1 e2 (ls := r) (fun x hx => h1 x (List.mem_cons_of_mem _ hx)) hp.2
    have c1 : ∀ b s, (backL b s (z :: r)).length = (backL b s r).length + if lapAt b s z.from_ < lapAt b s z.to then 1 else 0 := fun b s => by
      unfold backL
      rw [List.map_cons, List.filter_cons]
      by_cases hc : lapAt b s z.from_ < lapAt b s z.to
      · rw [if_pos (by exact decide_eq_true hc), if_pos hc]; rfl
      · rw [if_neg (by intro hd; exact hc (of_decide_eq_true hd)), if_neg hc]; rfl
    rw [c1, c1, List.length_cons]
    by_cases ht : z.to ≤ t
    · have n2 : ¬lapAt t sp2 z.from_ < lapAt t sp2 z.to := by have := hz.lt; unfold lapAt; omega
      rw [if_neg n2]
      split <;> omega
    · have e0 : backL 0 sp1 r = [] := by
        unfold backL
        rw [List.filter_eq_nil_iff]
        intro x hx
        obtain ⟨y, hy, rfl⟩ := List.mem_map.1 hx
        have h3 := hp.1 y hy
        have h4 := (h1 y (List.mem_cons_of_mem _ hy)).lt
        have n3 : ¬lapAt 0 sp1 y.from_ < lapAt 0 sp1 y.to := by unfold lapAt; omega
        intro hd
        exact n3 (of_decide_eq_true hd)
      have hle := backL_len t sp2 r
      rw [e0, List.length_nil]
      split <;> split <;> omega
/-! #### names -/
theorem tagR_self : ∀ l : List ByteArray, tagR l l = l
  | [] => tagR_nil []
  | x :: l => by
    have h1 : ¬sLt x x = true := fun h => List.lt_irrefl _ (sLt_iff.1 h)
    rw [tagR_e h1 (sEq_iff.2 rfl), tagR_self l]
/-! #### both parts -/
structure CutW (a : ActD) (n : Nat) (p : SmpR) : Prop where
  good : GoodA a
  p : a.ss[n]? = some p
  lo : 1 ≤ n
  hi : n + 1 < a.ss.length
  laps : a.ls.length < 200
def xD (a : ActD) (n : Nat) : ActD := partD a (pcS a.ss 0 (n + 1)) 0
def yD (a : ActD) (n : Nat) (t : Int) : ActD := partD a (pcS a.ss n (a.ss.length - n)) t
section
variable {a : ActD} {n : Nat} {p : SmpR}
theorem CutW.first (h : CutW a n p) : ∃ f, a.ss[0]? = some f ∧ f.at_ = 0 := by
  have hl := h.hi
  have hx := List.getElem?_eq_getElem (l := a.ss) (i := 0) (by omega)
  exact ⟨_, hx, h.good.smp.first _ hx⟩
theorem CutW.last (h : CutW a n p) : ∃ l, a.ss[a.ss.length - 1]? = some l ∧ l.at_ = spanL a.ss := by
  have hl := h.hi
  have hx := List.getElem?_eq_getElem (l := a.ss) (i := a.ss.length - 1) (by omega)
  exact ⟨_, hx, (spanL_get hx (by omega)).symm⟩
theorem CutW.t (h : CutW a n p) : 0 < p.at_ ∧ p.at_ < spanL a.ss := by
  obtain ⟨f, hf, hf0⟩ := h.first
  obtain ⟨l, hl, hl0⟩ := h.last
  have h1 := upT h.good.smp (show 0 < n by have := h.lo; omega) hf h.p
  have h2 := upT h.good.smp (show n < a.ss.length - 1 by have := h.hi; omega) h.p hl
  omega
theorem part_good {l : List SmpR} {b : Int} (hg : GoodA a) (hs : SmpOk (a.start + b) (backS b l)) (h0 : 0 ≤ spanL (backS b l)) (hb : 0 ≤ a.start + b ∧ a.start + b ≤ 86399999999) : GoodA (partD a l b) := by
  have hL := laps_of hg.l
  have hB := backL_ok (b := b) h0 hL.1 hL.2.1
  refine ⟨⟨hg.head.1, hg.head.2.1, inB_iff.2 hb, hs.len, ?_, hg.head.2.2.2.2.2⟩, smp_chkT hs, laps_to hB.1 hB.2 (fun y h => by cases h), hg.t⟩
  have h1 := backL_len b (spanL (backS b l)) a.ls
  have h2 := hg.head.2.2.2.2.1
  show (backL b (spanL (backS b l)) a.ls).length ≤ 200
  omega
theorem back_zero (l : List SmpR) : backS 0 l = l := by
  unfold backS
  have : (SmpR.back 0) = _root_.id := by funext x; unfold SmpR.back; simp
  rw [this, List.map_id]
theorem CutW.xgood (h : CutW a n p) : GoodA (xD a n) ∧ spanL (xD a n).ss = p.at_ := by
  obtain ⟨f, hf, hf0⟩ := h.first
  have hst := inB_iff.1 h.good.head.2.2.1
  have hsp := pc_span (x := f) (ss := a.ss) (i := 0) (m := n) (by have := h.hi; omega) (by rw [Nat.zero_add]; exact h.p)
  have hok := pc_ok h.good.smp hf (m := n + 1) (by have := h.hi; omega)
  rw [hf0] at hsp hok
  have ht := h.t
  refine ⟨part_good h.good hok (by omega) (by omega), ?_⟩
  show spanL (backS 0 (pcS a.ss 0 (n + 1))) = _
  omega
theorem CutW.ygood (h : CutW a n p) : GoodA (yD a n p.at_) ∧ spanL (yD a n p.at_).ss = spanL a.ss - p.at_ := by
  obtain ⟨l, hl, hl0⟩ := h.last
  have hst := inB_iff.1 h.good.head.2.2.1
  have hn := h.hi
  have hsp := pc_span (x := p) (ss := a.ss) (i := n) (m := a.ss.length - n - 1) (by omega) (by rw [show n + (a.ss.length - n - 1) = a.ss.length - 1 by omega]; exact hl)
  rw [show a.ss.length - n - 1 + 1 = a.ss.length - n by omega] at hsp
  have hok := pc_ok h.good.smp h.p (m := a.ss.length - n) (by omega)
  have ht := h.t
  have hb := h.good.smp.bd p (List.mem_of_getElem? h.p)
  refine ⟨part_good h.good hok (by omega) (by omega), ?_⟩
  show spanL (backS p.at_ (pcS a.ss n (a.ss.length - n))) = _
  omega
theorem CutW.cutx (h : CutW a n p) : cutR a 0 p.at_ = (xD a n, 0) := by
  obtain ⟨f, hf, hf0⟩ := h.first
  have ht := h.t
  have hn := h.lo
  rw [cutR_0 h.good.chk (by have := h.hi; omega) (by omega)]
  have e := cut_pc h.good.smp (show 0 < n by omega) hf h.p
  rw [hf0, Nat.sub_zero] at e
  rw [e]
  exact partR_0 (by rw [show partD a (pcS a.ss 0 (n + 1)) 0 = xD a n from rfl, h.xgood.1.chk]; simp)
theorem CutW.cuty (h : CutW a n p) : cutR a p.at_ (spanL a.ss) = (yD a n p.at_, 0) := by
  obtain ⟨l, hl, hl0⟩ := h.last
  have ht := h.t
  have hn := h.hi
  rw [cutR_0 h.good.chk (by omega) (by omega)]
  have e := cut_pc h.good.smp (show n < a.ss.length - 1 by omega) h.p hl
  rw [hl0, show a.ss.length - 1 - n + 1 = a.ss.length - n by omega] at e
  rw [e]
  exact partR_0 (by rw [show partD a (pcS a.ss n (a.ss.length - n)) p.at_ = yD a n p.at_ from rfl, h.ygood.1.chk]; simp)
theorem joinK_tail {az bs : List SmpR} {b : Int} (hb : ∀ s, bs[0]? = some s → ¬(az.length = 0 ∨ spanL az < s.at_ + b)) : ∀ k, k ≤ bs.length → joinK az bs b k = az ++ ((bs.take k).drop 1).map (SmpR.fwd b)
  | 0, _ => by simp [joinK]
  | k + 1, hk => by
    have hx := List.getElem?_eq_getElem (l := bs) (i := k) (by omega)
    by_cases h0 : k = 0
    · subst h0
      rw [joinK_no hx (by have := hb _ hx; rintro (h | h); · omega
                          · exact this h)]
      rw [show joinK az bs b 0 = az from rfl]
      rw [take_succ_get hx]; simp
    · rw [joinK_yes hx (.inl (by omega)), joinK_tail hb k (by omega), take_succ_get hx, List.drop_append_of_le_length (by rw [List.length_take]; omega), List.map_append, List.append_assoc]
      rfl
theorem CutW.joinss (h : CutW a n p) : joinK (xD a n).ss (yD a n p.at_).ss ((yD a n p.at_).start - (xD a n).start) (yD a n p.at_).ss.length = a.ss := by
  have hb : (yD a n p.at_).start - (xD a n).start = p.at_ := by show a.start + p.at_ - (a.start + 0) = p.at_; omega
  have hn := h.hi
  have hy0 : (yD a n p.at_).ss = backS p.at_ (pcS a.ss n (a.ss.length - n)) := rfl
  have hx0 : (xD a n).ss = pcS a.ss 0 (n + 1) := back_zero _
  have hxs := h.xgood.2
  rw [hb, joinK_tail (fun s hs => ?_) _ (Nat.le_refl _), List.take_length, hx0, hy0]
  · unfold backS pcS
    rw [List.drop_zero, ← List.map_drop, List.map_map]
    have e1 : (SmpR.fwd p.at_ ∘ SmpR.back p.at_) = _root_.id := by funext z; unfold SmpR.fwd SmpR.back; simp
    have e2 : (a.ss.drop n).take (a.ss.length - n) = a.ss.drop n := List.take_of_length_le (by rw [List.length_drop]; exact Nat.le_refl _)
    rw [e1, List.map_id, e2, List.drop_drop, List.take_append_drop]
  · obtain ⟨z, hz, rfl⟩ := backS_get (show (backS p.at_ (pcS a.ss n (a.ss.length - n)))[0]? = some s from hs)
    have h1 := (pcS_get hz).1
    rw [Nat.add_zero, h.p] at h1
    cases h1
    rintro (h2 | h2)
    · rw [hx0, pcS_len (by omega)] at h2; omega
    · rw [hxs] at h2
      have : (p.back p.at_).at_ = p.at_ - p.at_ := rfl
      omega
theorem CutW.join (h : CutW a n p) : ∃ d, joinR (xD a n) (yD a n p.at_) = (d, 0) ∧ d.start = a.start ∧ d.ss = a.ss ∧ d.ts = a.ts := by
  have hx := h.xgood
  have hy := h.ygood
  have ht := h.t
  have hb : (yD a n p.at_).start - (xD a n).start = p.at_ := by show a.start + p.at_ - (a.start + 0) = p.at_; omega
  have hss := h.joinss
  have hD : joinD (xD a n) (yD a n p.at_) = ⟨a.name, a.sport, a.start, a.ss, (xD a n).ls ++ fwdL p.at_ (yD a n p.at_).ls, a.ts⟩ := by
    unfold joinD
    rw [hss, hb]
    congr 1
    · show a.start + 0 = a.start; omega
    · exact tagR_self a.ts
  have hL := laps_of h.good.l
  have hcnt := backL_count (t := p.at_) (sp := spanL a.ss) hx.2 hy.2 hL.1 hL.2.1
  have hll : ((xD a n).ls ++ fwdL p.at_ (yD a n p.at_).ls).length ≤ 200 := by
    rw [List.length_append]
    unfold fwdL
    rw [List.length_map]
    have h1 : (xD a n).ls.length = (backL 0 (spanL (xD a n).ss) a.ls).length := rfl
    have h2 : (yD a n p.at_).ls.length = (backL p.at_ (spanL (yD a n p.at_).ss) a.ls).length := rfl
    have := h.laps
    omega
  have hxl := laps_of hx.1.l
  have hyl := laps_of hy.1.l
  have hgood : GoodA (joinD (xD a n) (yD a n p.at_)) := by
    rw [hD]
    refine ⟨⟨h.good.head.1, h.good.head.2.1, h.good.head.2.2.1, h.good.head.2.2.2.1, hll, h.good.head.2.2.2.2.2⟩, h.good.s, laps_to ?_ ?_ (fun y h => by cases h), h.good.t⟩
    · intro z hz
      rcases List.mem_append.1 hz with h1 | h1
      · have h2 := hxl.1 z h1
        refine ⟨h2.lo, h2.lt, ?_, h2.nm⟩
        have := h2.hi
        rw [hx.2] at this
        show z.to ≤ spanL a.ss
        omega
      · obtain ⟨y, hy1, rfl⟩ := List.mem_map.1 h1
        have h2 := hyl.1 y hy1
        have h3 := h2.lo
        have h4 := h2.lt
        have h5 := h2.hi
        rw [hy.2] at h5
        refine ⟨?_, ?_, ?_, h2.nm⟩
        · show 0 ≤ y.from_ + p.at_; omega
        · show y.from_ + p.at_ < y.to + p.at_; omega
        · show y.to + p.at_ ≤ spanL a.ss; omega
    · rw [List.pairwise_append]
      refine ⟨hxl.2.1, ?_, fun u hu z hz => ?_⟩
      · unfold fwdL
        rw [List.pairwise_map]
        exact hyl.2.1.imp fun {u z} h => by show u.to + p.at_ ≤ z.from_ + p.at_; omega
      · obtain ⟨y, hy1, rfl⟩ := List.mem_map.1 hz
        have h2 := (hxl.1 u hu).hi
        rw [hx.2] at h2
        have h3 := (hyl.1 y hy1).lo
        show u.to ≤ y.from_ + p.at_
        omega
  refine ⟨joinD (xD a n) (yD a n p.at_), ?_, by rw [hD], by rw [hD], by rw [hD]⟩
  have hsp : ¬(xD a n).sport ≠ (yD a n p.at_).sport := fun h => h rfl
  rw [joinR_d (by rw [hx.1.chk]; simp) (by rw [hy.1.chk]; simp) hsp (by rw [hb, hx.2]; omega), if_neg, if_neg (by rw [hgood.chk]; simp)]
  have h1 := hgood.head
  obtain ⟨_, _, _, g4, g5, g6⟩ := h1
  omega
end
/-! #### steps of the parts -/
theorem steps_drop (ss : List SmpR) (n : Nat) : stepsL (ss.drop n) = (stepsL ss).drop n := by
  apply List.ext_getElem?
  intro k
  rw [List.getElem?_drop]
  cases hp : (stepsL ss)[n + k]? with
  | some x =>
    have h := stepsL_inv hp
    exact stepsL_get (by rw [List.getElem?_drop]; exact h.1) (by rw [List.getElem?_drop, show n + (k + 1) = n + k + 1 by omega]; exact h.2)
  | none =>
    have h := List.getElem?_eq_none_iff.1 hp
    rw [stepsL_len] at h
    rw [List.getElem?_eq_none]
    rw [stepsL_len, List.length_drop]; omega
theorem steps_take (ss : List SmpR) (n : Nat) : stepsL (ss.take (n + 1)) = (stepsL ss).take n := by
  apply List.ext_getElem?
  intro k
  rw [List.getElem?_take]
  by_cases hk : k < n
  · rw [if_pos hk]
    cases hp : (stepsL ss)[k]? with
    | some x =>
      have h := stepsL_inv hp
      exact stepsL_get (by rw [List.getElem?_take, if_pos (by omega)]; exact h.1) (by rw [List.getElem?_take, if_pos (by omega)]; exact h.2)
    | none =>
      have h := List.getElem?_eq_none_iff.1 hp
      rw [stepsL_len] at h
      rw [List.getElem?_eq_none]
      rw [stepsL_len, List.length_take]; omega
  · rw [if_neg hk, List.getElem?_eq_none]
    rw [stepsL_len, List.length_take]; omega
def bk2 (b : Int) (x : SmpR × SmpR) : SmpR × SmpR := (x.1.back b, x.2.back b)
theorem steps_back (b : Int) (l : List SmpR) : stepsL (backS b l) = (stepsL l).map (bk2 b) := by
  apply List.ext_getElem?
  intro k
  rw [List.getElem?_map]
  cases hp : (stepsL l)[k]? with
  | some x =>
    have h := stepsL_inv hp
    refine stepsL_get (x := x.1.back b) (y := x.2.back b) ?_ ?_
    · unfold backS; rw [List.getElem?_map, h.1]; rfl
    · unfold backS; rw [List.getElem?_map, h.2]; rfl
  | none =>
    have h := List.getElem?_eq_none_iff.1 hp
    rw [stepsL_len] at h
    rw [List.getElem?_eq_none]; rfl
    rw [stepsL_len]; unfold backS; rw [List.length_map]; exact h
end Go.Proofs.Ytfbmkepogcimlaa

/-
  Efforts: what they are made of; the best of them. Plain part.
-/


namespace Go.Proofs.Ytfbmkepogcimlaa
set_option linter.unusedVariables false
set_option linter.unusedSimpArgs false
theorem crossS_mem {gs : List GateR} {st : List (SmpR × SmpR)} {c : CrossR} : ∀ {K : Nat}, c ∈ crossS gs st K → ∃ (k : Nat) (x : SmpR × SmpR) (i : Nat) (g : GateR), k < K ∧ st[k]? = some x ∧ gs[i]? = some g ∧ crB g x.1 x.2 = true ∧ c = crossOf gs x.1 x.2 k (i : Int)
  | 0, h => by simp [crossS] at h
  | K + 1, h => by
    rw [crossS, List.mem_append] at h
    rcases h with h | h
    · obtain ⟨k, x, i, g, h1, h2⟩ := crossS_mem h; exact ⟨k, x, i, g, by omega, h2⟩
    · cases hx : st[K]? with
      | none => rw [hx] at h; simp at h
      | some x =>
        rw [hx] at h
        obtain ⟨i, hi, rfl⟩ := List.mem_map.1 h
        obtain ⟨j, g, rfl, _, hg, hc⟩ := gIdx_mem (gOrd_mem.1 hi)
        exact ⟨K, x, j, g, by omega, hx, hg, hc, rfl⟩
theorem cross_at {gs : List GateR} {p q : SmpR} {k i : Nat} {g : GateR} (hg : ∀ g ∈ gs, ∀ o, fG o g = 0) (hp : PlaceOk p) (hq : PlaceOk q) (hi : gs[i]? = some g) (hc : crB g p q = true) (hd : 0 ≤ q.at_ - p.at_ ∧ q.at_ - p.at_ ≤ 1000000000) :
    1000 * p.at_ ≤ (crossOf gs p q k (i : Int)).at_ ∧ (crossOf gs p q k (i : Int)).at_ ≤ 1000 * q.at_ ∧ (crossOf gs p q k (i : Int)).gate = i := by
  obtain ⟨h1, h2, _⟩ := part_ok (hg g (List.mem_of_getElem? hi)) hp hq hc
  have h3 := scale_part h1 h2 hd
  rw [crossOf_eq hi]
  exact ⟨by show _ ≤ 1000 * p.at_ + _; omega, by show 1000 * p.at_ + _ ≤ _; omega, rfl⟩
theorem cross_bd {gs : List GateR} {st : Int} {ss : List SmpR} {K : Nat} {c : CrossR} (hg : ∀ g ∈ gs, ∀ o, fG o g = 0) (hok : SmpOk st ss) (h : c ∈ crossS gs (stepsL ss) K) : 0 ≤ c.at_ ∧ c.at_ ≤ 1000000000 ∧ 0 ≤ c.gate := by
  obtain ⟨k, x, i, g, _, hx, hi, hc, rfl⟩ := crossS_mem h
  have hxx := stepsL_inv hx
  have b1 := hok.bd _ (List.mem_of_getElem? hxx.1)
  have b2 := hok.bd _ (List.mem_of_getElem? hxx.2)
  have hr := hok.rise _ _ _ hxx.1 hxx.2
  have h1 := cross_at (k := k) hg (hok.place (List.mem_of_getElem? hxx.1)) (hok.place (List.mem_of_getElem? hxx.2)) hi hc (by omega)
  omega
/-- A row of times, each of a crossing of its gate. -/
def RowOk (cs : List CrossR) (l : List Int) : Prop := ∀ (i : Nat) t, l[i]? = some t → ∃ c ∈ cs, c.gate = i ∧ c.at_ = t
theorem RowOk.snoc {cs : List CrossR} {l : List Int} {c : CrossR} (h : RowOk cs l) (hc : c ∈ cs) (hg : c.gate = l.length) : RowOk cs (l ++ [c.at_]) := by
  intro i t hi
  by_cases hlt : i < l.length
  · rw [List.getElem?_append_left hlt] at hi; exact h i t hi
  · rw [List.getElem?_append_right (by omega)] at hi
    have hz : i - l.length = 0 := by
      apply Decidable.byContradiction; intro h0
      rw [List.getElem?_eq_none (by simp; omega)] at hi; cases hi
    rw [hz] at hi; cases hi
    exact ⟨c, hc, by omega, rfl⟩
theorem effN_rows {G : Nat} (hG : 2 ≤ G) (cs : List CrossR) : ∀ k, RowOk cs (effN G cs k).2 ∧ ∀ l ∈ (effN G cs k).1, l.length = G ∧ RowOk cs l
  | 0 => ⟨fun i t h => by simp [effN] at h, fun l h => by simp [effN] at h⟩
  | k + 1 => by
    obtain ⟨ih1, ih2⟩ := effN_rows hG cs k
    cases h : cs[k]? with
    | none => rw [effN, h]; exact ⟨ih1, ih2⟩
    | some c =>
      have hc := List.mem_of_getElem? h
      by_cases h1 : c.gate = 0
      · rw [effN_a h h1]
        refine ⟨fun i t hi => ?_, ih2⟩
        have h0 : RowOk cs [] := fun i t h => by simp at h
        exact (h0.snoc hc (by rw [h1]; rfl)) i t hi
      · by_cases h2 : 0 < (effN G cs k).2.length ∧ ((effN G cs k).2.length : Int) = c.gate
        · have h4 := ih1.snoc hc h2.2.symm
          by_cases h3 : (effN G cs k).2.length + 1 = G
          · rw [effN_c h h1 h2 h3]
            refine ⟨fun i t h => by simp at h, fun l hl => ?_⟩
            rcases List.mem_append.1 hl with hl | hl
            · exact ih2 l hl
            · simp at hl; subst hl
              exact ⟨by rw [List.length_append]; exact h3, h4⟩
          · rw [effN_d h h1 h2 h3]; exact ⟨h4, ih2⟩
        · rw [effN_b h h1 h2]; exact ⟨ih1, ih2⟩
/-- How long an effort took. -/
def longV (l : List Int) : Int := l.getD (l.length - 1) 0 - l.getD 0 0
/-- The number of the best of the first k. -/
def bestK (l : List (List Int)) : Nat → Nat
  | 0 => 0
  | k + 1 => match l[k]? with | some x => if longV x < longV (l.getD (bestK l k) []) then k else bestK l k | none => bestK l k
theorem bestK_lt (l : List (List Int)) : ∀ k, k ≤ l.length → 0 < k → bestK l k < k
  | 0, _, h => by omega
  | k + 1, hk, _ => by
    rw [bestK, List.getElem?_eq_getElem (by omega)]
    dsimp only
    split
    · omega
    · by_cases h0 : k = 0
      · subst h0; show bestK l 0 < _; rw [bestK]; omega
      · have := bestK_lt l k (by omega) (by omega); omega
theorem bestK_one (l : List (List Int)) : bestK l 1 = 0 := by
  rw [bestK]
  cases h : l[0]? with
  | none => rfl
  | some x => dsimp only; split <;> rfl
end Go.Proofs.Ytfbmkepogcimlaa

/-
  Efforts are rows: plain part.
-/

namespace Go.Proofs.Ytfbmkepogcimlaa
set_option linter.unusedVariables false
set_option linter.unusedSimpArgs false
theorem frac_ediv {a b c d D : Int} (hb : 0 < b) (hd : 0 < d) (hD : 0 ≤ D) (h : a * d ≤ c * b) : a * D / b ≤ c * D / d := by
  refine Int.le_ediv_of_mul_le hd ?_
  have h1 := Int.ediv_mul_le (a * D) (show b ≠ 0 by omega)
  have h2 := Int.mul_le_mul_of_nonneg_right h1 (Int.le_of_lt hd)
  have h3 := Int.mul_le_mul_of_nonneg_right h hD
  have h4 : a * D / b * d * b ≤ c * D * b := by
    rw [Int.mul_right_comm (a * D / b) d b, Int.mul_right_comm c D b]
    rw [Int.mul_right_comm a D d] at h2
    omega
  exact Int.le_of_mul_le_mul_right h4 hb
theorem SmpOk.upto {st : Int} {ss : List SmpR} (h : SmpOk st ss) : ∀ (d i : Nat) (x y : SmpR), ss[i]? = some x → ss[i + d]? = some y → x.at_ ≤ y.at_
  | 0, i, x, y, hx, hy => by rw [Nat.add_zero, hx] at hy; cases hy; exact Int.le_refl _
  | d + 1, i, x, y, hx, hy => by
    have hlt := (List.getElem?_eq_some_iff.1 hy).1
    have hz := List.getElem?_eq_getElem (l := ss) (i := i + d) (by omega)
    have h1 := h.upto d i x _ hx hz
    have h2 := h.rise _ _ _ hz hy
    omega
theorem cross_le {gs : List GateR} {p q : SmpR} {k i j : Nat} {g h : GateR} (hg : ∀ g ∈ gs, ∀ o, fG o g = 0) (hp : PlaceOk p) (hq : PlaceOk q) (hi : gs[i]? = some g) (hj : gs[j]? = some h) (hci : crB g p q = true) (hcj : crB h p q = true) (hd : 0 ≤ q.at_ - p.at_) (hr : RR (ltG gs p q) (i : Int) (j : Int)) :
    (crossOf gs p q k (i : Int)).at_ ≤ (crossOf gs p q k (j : Int)).at_ := by
  obtain ⟨h1, _, _⟩ := part_ok (hg g (List.mem_of_getElem? hi)) hp hq hci
  obtain ⟨h2, _, _⟩ := part_ok (hg h (List.mem_of_getElem? hj)) hp hq hcj
  have hn : ltG gs p q (j : Int) (i : Int) = false := by
    rcases hr with hr | hr
    · exact (ltG_swo gs p q).asym _ _ hr
    · exact hr.1
  unfold ltG at hn
  rw [gPart_at hi, gPart_at hj, posI_eq (n := (partOf h p q).den) (by have := h2.2.1; omega), posI_eq (n := (partOf g p q).den) (by have := h1.2.1; omega), decide_eq_false_iff_not] at hn
  rw [crossOf_eq hi, crossOf_eq hj]
  have h3 := frac_ediv (D := 1000 * (q.at_ - p.at_)) (show 0 < (partOf g p q).den by have := h1.2.1; omega) (show 0 < (partOf h p q).den by have := h2.2.1; omega) (by omega) (Int.not_lt.1 hn)
  show 1000 * p.at_ + _ ≤ 1000 * p.at_ + _
  omega
theorem crossS_up {gs : List GateR} {st : Int} {ss : List SmpR} (hg : ∀ g ∈ gs, ∀ o, fG o g = 0) (hok : SmpOk st ss) : ∀ K, (crossS gs (stepsL ss) K).Pairwise fun a b => a.at_ ≤ b.at_
  | 0 => List.Pairwise.nil
  | K + 1 => by
    have ih := crossS_up hg hok K
    cases h : (stepsL ss)[K]? with
    | none => rw [crossS, h]; dsimp only; rw [List.append_nil]; exact ih
    | some x =>
      rw [crossS_succ h]
      have hxx := stepsL_inv h
      have hp := hok.place (List.mem_of_getElem? hxx.1)
      have hq := hok.place (List.mem_of_getElem? hxx.2)
      have hr := hok.rise _ _ _ hxx.1 hxx.2
      have hb1 := hok.bd _ (List.mem_of_getElem? hxx.1)
      have hb2 := hok.bd _ (List.mem_of_getElem? hxx.2)
      refine List.pairwise_append.2 ⟨ih, ?_, fun a ha b hb => ?_⟩
      · rw [List.pairwise_map]
        refine (List.Pairwise.imp_of_mem ?_ (gOrd_pair gs x.1 x.2 gs.length))
        intro i j hi hj hij
        obtain ⟨i, g, rfl, _, hgi, hci⟩ := gIdx_mem (gOrd_mem.1 hi)
        obtain ⟨j, h, rfl, _, hgj, hcj⟩ := gIdx_mem (gOrd_mem.1 hj)
        exact cross_le hg hp hq hgi hgj hci hcj (by omega) hij
      · obtain ⟨k, y, i, g, hk, hy, hgi, hci, rfl⟩ := crossS_mem ha
        obtain ⟨j, hj, rfl⟩ := List.mem_map.1 hb
        obtain ⟨j, h', rfl, _, hgj, hcj⟩ := gIdx_mem (gOrd_mem.1 hj)
        have hyy := stepsL_inv hy
        have hry := hok.rise _ _ _ hyy.1 hyy.2
        have hb3 := hok.bd _ (List.mem_of_getElem? hyy.1)
        have hb4 := hok.bd _ (List.mem_of_getElem? hyy.2)
        have h1 := cross_at (k := k) hg (hok.place (List.mem_of_getElem? hyy.1)) (hok.place (List.mem_of_getElem? hyy.2)) hgi hci (by omega)
        have h2 := cross_at (k := K) hg hp hq hgj hcj (by omega)
        have h3 := hok.upto (K - (k + 1)) (k + 1) y.2 x.1 hyy.2 (by rw [show k + 1 + (K - (k + 1)) = K by omega]; exact hxx.1)
        omega
/-- The rows of times, so far: each goes up, and they stand one behind the other. -/
structure EffO (cs : List CrossR) (k : Nat) (s : List (List Int) × List Int) : Prop where
  up : ∀ l ∈ s.1, l.Pairwise (· ≤ ·)
  upn : s.2.Pairwise (· ≤ ·)
  ah : ∀ l ∈ s.1, ∀ t ∈ l, ∀ (j : Nat) c, k ≤ j → cs[j]? = some c → t ≤ c.at_
  ahn : ∀ t ∈ s.2, ∀ (j : Nat) c, k ≤ j → cs[j]? = some c → t ≤ c.at_
  ch : ∀ (i : Nat) l l', s.1[i]? = some l → s.1[i + 1]? = some l' → ∀ t ∈ l, ∀ t' ∈ l', t ≤ t'
  chn : ∀ l ∈ s.1, ∀ t ∈ l, ∀ t' ∈ s.2, t ≤ t'
theorem effN_up {G : Nat} {cs : List CrossR} (hc : cs.Pairwise fun a b => a.at_ ≤ b.at_) : ∀ k, EffO cs k (effN G cs k)
  | 0 => ⟨fun l h => by simp [effN] at h, List.Pairwise.nil, fun l h => by simp [effN] at h, fun t h => by simp [effN] at h, fun i l l' h => by simp [effN] at h, fun l h => by simp [effN] at h⟩
  | k + 1 => by
    have ih := effN_up (G := G) hc k
    cases h : cs[k]? with
    | none =>
      rw [effN, h]
      exact ⟨ih.up, ih.upn, fun l hl t ht j c hj => ih.ah l hl t ht j c (by omega), fun t ht j c hj => ih.ahn t ht j c (by omega), ih.ch, ih.chn⟩
    | some c =>
      have hkc : ∀ (j : Nat) c', k + 1 ≤ j → cs[j]? = some c' → c.at_ ≤ c'.at_ := fun j c' hj hc' => by
        have h1 := (List.getElem?_eq_some_iff.1 h)
        have h2 := (List.getElem?_eq_some_iff.1 hc')
        obtain ⟨l1, e1⟩ := h1
        obtain ⟨l2, e2⟩ := h2
        have h3 := (List.pairwise_iff_getElem.1 hc) k j l1 l2 (by omega)
        rw [e1, e2] at h3; exact h3
      have hnow : ((effN G cs k).2 ++ [c.at_]).Pairwise (· ≤ ·) := by
        refine List.pairwise_append.2 ⟨ih.upn, by simp, fun a ha b hb => ?_⟩
        simp at hb; subst hb
        exact ih.ahn a ha k c (Nat.le_refl _) h
      have hahn : ∀ t ∈ (effN G cs k).2 ++ [c.at_], ∀ (j : Nat) c', k + 1 ≤ j → cs[j]? = some c' → t ≤ c'.at_ := fun t ht j c' hj hc' => by
        rcases List.mem_append.1 ht with ht | ht
        · exact ih.ahn t ht j c' (by omega) hc'
        · simp at ht; subst ht; exact hkc j c' hj hc'
      have hchn : ∀ l ∈ (effN G cs k).1, ∀ t ∈ l, ∀ t' ∈ (effN G cs k).2 ++ [c.at_], t ≤ t' := fun l hl t ht t' ht' => by
        rcases List.mem_append.1 ht' with ht' | ht'
        · exact ih.chn l hl t ht t' ht'
        · simp at ht'; subst ht'; exact ih.ah l hl t ht k c (Nat.le_refl _) h
      have hah : ∀ l ∈ (effN G cs k).1, ∀ t ∈ l, ∀ (j : Nat) c', k + 1 ≤ j → cs[j]? = some c' → t ≤ c'.at_ := fun l hl t ht j c' hj => ih.ah l hl t ht j c' (by omega)
      by_cases h1 : c.gate = 0
      · rw [effN_a h h1]
        refine ⟨ih.up, by simp, hah, fun t ht j c' hj hc' => ?_, ih.ch, fun l hl t ht t' ht' => ?_⟩
        · simp at ht; subst ht; exact hkc j c' hj hc'
        · simp at ht'; subst ht'; exact ih.ah l hl t ht k c (Nat.le_refl _) h
      · by_cases h2 : 0 < (effN G cs k).2.length ∧ ((effN G cs k).2.length : Int) = c.gate
        · by_cases h3 : (effN G cs k).2.length + 1 = G
          · rw [effN_c h h1 h2 h3]
            refine ⟨fun l hl => ?_, List.Pairwise.nil, fun l hl => ?_, fun t ht => by simp at ht, fun i l l' hl hl' => ?_, fun l hl t ht t' ht' => by simp at ht'⟩
            · rcases List.mem_append.1 hl with hl | hl
              · exact ih.up l hl
              · simp at hl; subst hl; exact hnow
            · rcases List.mem_append.1 hl with hl | hl
              · exact hah l hl
              · simp at hl; subst hl; exact hahn
            · by_cases hi : i + 1 < (effN G cs k).1.length
              · rw [List.getElem?_append_left (by omega)] at hl
                rw [List.getElem?_append_left hi] at hl'
                exact ih.ch i l l' hl hl'
              · have hlt := (List.getElem?_eq_some_iff.1 hl').1
                rw [List.length_append] at hlt
                simp only [List.length_cons, List.length_nil] at hlt
                rw [List.getElem?_append_left (by omega)] at hl
                rw [List.getElem?_append_right (by omega), show i + 1 - (effN G cs k).1.length = 0 by omega] at hl'
                cases hl'
                exact hchn l (List.mem_of_getElem? hl)
          · rw [effN_d h h1 h2 h3]
            exact ⟨ih.up, hnow, hah, hahn, ih.ch, hchn⟩
        · rw [effN_b h h1 h2]
          exact ⟨ih.up, ih.upn, hah, fun t ht j c' hj => ih.ahn t ht j c' (by omega), ih.ch, ih.chn⟩
theorem bestK_min (l : List (List Int)) : ∀ k, k ≤ l.length → ∀ (j : Nat) x, j < k → l[j]? = some x → longV (l.getD (bestK l k) []) ≤ longV x
  | 0, _, j, x, h, _ => by omega
  | k + 1, hk, j, x, hj, hx => by
    have hz := List.getElem?_eq_getElem (l := l) (i := k) (by omega)
    rw [bestK, hz]
    dsimp only
    split
    · rename_i hlt
      have hD : l.getD k [] = l[k] := by simp [List.getD, hz]
      rw [hD]
      by_cases h : j = k
      · subst h; rw [hz] at hx; cases hx; exact Int.le_refl _
      · have := bestK_min l k (by omega) j x (by omega) hx; omega
    · rename_i hlt
      by_cases h : j = k
      · subst h; rw [hz] at hx; cases hx; omega
      · exact bestK_min l k (by omega) j x (by omega) hx
end Go.Proofs.Ytfbmkepogcimlaa

/-
  One sample more, and a part of an activity: what becomes of crossings and efforts. Plain part.
-/


namespace Go.Proofs.Ytfbmkepogcimlaa
open Go Hx
set_option linter.unusedVariables false
set_option linter.unusedSimpArgs false
/-! #### crossings and efforts, without the numbers of the steps -/
def pj (c : CrossR) : Int × Int := (c.gate, c.at_)
def gat (gs : List GateR) (p q : SmpR) (i : Int) : Int × Int := pj (crossOf gs p q 0 i)
theorem pj_cross (gs : List GateR) (p q : SmpR) (k : Nat) (i : Int) : pj (crossOf gs p q k i) = gat gs p q i := by
  unfold gat crossOf
  cases gs[i.toNat]? <;> rfl
def stG (gs : List GateR) (x : SmpR × SmpR) : List (Int × Int) := (gOrd gs x.1 x.2 gs.length).map (gat gs x.1 x.2)
def crossG (gs : List GateR) (st : List (SmpR × SmpR)) : List (Int × Int) := st.flatMap (stG gs)
theorem crossG_app (gs : List GateR) (a b : List (SmpR × SmpR)) : crossG gs (a ++ b) = crossG gs a ++ crossG gs b := List.flatMap_append
theorem crossG_cons (gs : List GateR) (a : SmpR × SmpR) (b : List (SmpR × SmpR)) : crossG gs (a :: b) = stG gs a ++ crossG gs b := List.flatMap_cons
theorem crossS_pj (gs : List GateR) (st : List (SmpR × SmpR)) : ∀ k, k ≤ st.length → (crossS gs st k).map pj = crossG gs (st.take k)
  | 0, _ => by simp [crossS, crossG]
  | k + 1, hk => by
    have hx := List.getElem?_eq_getElem (l := st) (i := k) (by omega)
    rw [crossS_succ hx, List.map_append, crossS_pj gs st k (by omega), List.map_map, take_succ_get hx, crossG_app, crossG_cons]
    have e : (pj ∘ crossOf gs st[k].1 st[k].2 k) = gat gs st[k].1 st[k].2 := by funext i; exact pj_cross ..
    rw [e]
    show _ = crossG gs (st.take k) ++ (stG gs st[k] ++ [])
    rw [List.append_nil]; rfl
theorem crossS_all (gs : List GateR) (st : List (SmpR × SmpR)) : (crossS gs st st.length).map pj = crossG gs st := by
  rw [crossS_pj gs st _ (Nat.le_refl _), List.take_length]
def effS1 (G : Nat) (s : List (List Int) × List Int) (c : Int × Int) : List (List Int) × List Int :=
  if c.1 = 0 then (s.1, [c.2])
  else if 0 < s.2.length ∧ (s.2.length : Int) = c.1 then (if s.2.length + 1 = G then (s.1 ++ [s.2 ++ [c.2]], []) else (s.1, s.2 ++ [c.2]))
  else s
theorem eff1_a {G : Nat} {s : List (List Int) × List Int} {c : Int × Int} (h : c.1 = 0) : effS1 G s c = (s.1, [c.2]) := if_pos h
theorem eff1_b {G : Nat} {s : List (List Int) × List Int} {c : Int × Int} (h : ¬c.1 = 0) (h2 : ¬(0 < s.2.length ∧ (s.2.length : Int) = c.1)) : effS1 G s c = s := by unfold effS1; rw [if_neg h, if_neg h2]
theorem eff1_c {G : Nat} {s : List (List Int) × List Int} {c : Int × Int} (h : ¬c.1 = 0) (h2 : 0 < s.2.length ∧ (s.2.length : Int) = c.1) (h3 : s.2.length + 1 = G) : effS1 G s c = (s.1 ++ [s.2 ++ [c.2]], []) := by unfold effS1; rw [if_neg h, if_pos h2, if_pos h3]
theorem eff1_d {G : Nat} {s : List (List Int) × List Int} {c : Int × Int} (h : ¬c.1 = 0) (h2 : 0 < s.2.length ∧ (s.2.length : Int) = c.1) (h3 : ¬s.2.length + 1 = G) : effS1 G s c = (s.1, s.2 ++ [c.2]) := by unfold effS1; rw [if_neg h, if_pos h2, if_neg h3]
def effF (G : Nat) (s : List (List Int) × List Int) (l : List (Int × Int)) : List (List Int) × List Int := l.foldl (effS1 G) s
theorem effF_app (G : Nat) (s : List (List Int) × List Int) (a b : List (Int × Int)) : effF G s (a ++ b) = effF G (effF G s a) b := List.foldl_append
theorem effN_F (G : Nat) (cs : List CrossR) : ∀ k, k ≤ cs.length → effN G cs k = effF G ([], []) ((cs.take k).map pj)
  | 0, _ => rfl
  | k + 1, hk => by
    have hx := List.getElem?_eq_getElem (l := cs) (i := k) (by omega)
    rw [effN_succ hx, effN_F G cs k (by omega), take_succ_get hx, List.map_append, effF_app]; rfl
theorem effL_F (G : Nat) (cs : List CrossR) : effL G cs = (effF G ([], []) (cs.map pj)).1 := by
  unfold effL
  rw [effN_F G cs _ (Nat.le_refl _), List.take_length]
theorem effL_G (G : Nat) (gs : List GateR) (st : List (SmpR × SmpR)) : effL G (crossS gs st st.length) = (effF G ([], []) (crossG gs st)).1 := by
  rw [effL_F, crossS_all]
/-! #### a step in two halves -/
structure MidS (p q m : SmpR) : Prop where
  at_ : 2 * m.at_ = p.at_ + q.at_
  x : 2 * m.x = p.x + q.x
  y : 2 * m.y = p.y + q.y
section
variable {p q m : SmpR}
theorem side_mid (h : MidS p q m) (g : GateR) : 2 * gSide g m = gSide g p + gSide g q := by
  unfold gSide side6
  have e1 : (g.bx - g.ax) * (2 * (m.y - g.ay)) = (g.bx - g.ax) * (p.y - g.ay) + (g.bx - g.ax) * (q.y - g.ay) := by rw [← Int.mul_add]; congr 1; have := h.y; omega
  have e2 : (g.by_ - g.ay) * (2 * (m.x - g.ax)) = (g.by_ - g.ay) * (p.x - g.ax) + (g.by_ - g.ay) * (q.x - g.ax) := by rw [← Int.mul_add]; congr 1; have := h.x; omega
  rw [Int.mul_left_comm] at e1 e2
  omega
theorem line_pm (h : MidS p q m) (X Y : Int) : side6 p.x p.y q.x q.y X Y = 2 * side6 p.x p.y m.x m.y X Y := by
  unfold side6
  have e1 : q.x - p.x = 2 * (m.x - p.x) := by have := h.x; omega
  have e2 : q.y - p.y = 2 * (m.y - p.y) := by have := h.y; omega
  rw [e1, e2, Int.mul_assoc, Int.mul_assoc]; omega
theorem line_mq (h : MidS p q m) (X Y : Int) : side6 p.x p.y q.x q.y X Y = 2 * side6 m.x m.y q.x q.y X Y := by
  unfold side6
  have e1 : q.x - p.x = 2 * (q.x - m.x) := by have := h.x; omega
  have e2 : q.y - p.y = 2 * (q.y - m.y) := by have := h.y; omega
  have e3 : X - m.x = (X - p.x) - (q.x - m.x) := by have := h.x; omega
  have e4 : Y - m.y = (Y - p.y) - (q.y - m.y) := by have := h.y; omega
  have e5 : (q.x - m.x) * (Y - m.y) = (q.x - m.x) * (Y - p.y) - (q.x - m.x) * (q.y - m.y) := by rw [e4, Int.mul_sub]
  have e6 : (q.y - m.y) * (X - m.x) = (q.y - m.y) * (X - p.x) - (q.x - m.x) * (q.y - m.y) := by rw [e3, Int.mul_sub, Int.mul_comm (q.y - m.y) (q.x - m.x)]
  rw [e1, e2, Int.mul_assoc, Int.mul_assoc, e5, e6]; omega
def thruB (a b : Int) : Bool := !(decide (0 < a) && decide (0 < b) || decide (a < 0) && decide (b < 0))
theorem thru_two (a b : Int) : thruB (2 * a) (2 * b) = thruB a b := by
  unfold thruB
  rw [show decide (0 < 2 * a) = decide (0 < a) from decide_eq_decide.2 (by omega), show decide (0 < 2 * b) = decide (0 < b) from decide_eq_decide.2 (by omega), show decide (2 * a < 0) = decide (a < 0) from decide_eq_decide.2 (by omega), show decide (2 * b < 0) = decide (b < 0) from decide_eq_decide.2 (by omega)]
def thruG (g : GateR) (p q : SmpR) : Bool := thruB (side6 p.x p.y q.x q.y g.ax g.ay) (side6 p.x p.y q.x q.y g.bx g.by_)
theorem crB_iff (g : GateR) (p q : SmpR) : crB g p q = true ↔ gSide g p < 0 ∧ 0 ≤ gSide g q ∧ thruG g p q = true := by
  have e : crB g p q = (!(decide (0 ≤ gSide g p) || decide (gSide g q < 0)) && thruG g p q) := rfl
  rw [e, Bool.and_eq_true, Bool.not_eq_true', Bool.or_eq_false_iff, decide_eq_false_iff_not, decide_eq_false_iff_not]
  constructor
  · rintro ⟨⟨h1, h2⟩, h3⟩; exact ⟨by omega, by omega, h3⟩
  · rintro ⟨h1, h2, h3⟩; exact ⟨⟨by omega, by omega⟩, h3⟩
theorem thru_pm (h : MidS p q m) (g : GateR) : thruG g p m = thruG g p q := by
  unfold thruG; rw [line_pm h, line_pm h, thru_two]
theorem thru_mq (h : MidS p q m) (g : GateR) : thruG g m q = thruG g p q := by
  unfold thruG; rw [line_mq h, line_mq h, thru_two]
theorem crB_mid (h : MidS p q m) (g : GateR) : crB g p q = true ↔ crB g p m = true ∨ crB g m q = true := by
  rw [crB_iff, crB_iff, crB_iff, thru_pm h, thru_mq h]
  have := side_mid h g
  constructor
  · rintro ⟨h1, h2, h3⟩
    by_cases hu : 0 ≤ gSide g m
    · exact .inl ⟨h1, hu, h3⟩
    · exact .inr ⟨by omega, h2, h3⟩
  · rintro (⟨h1, h2, h3⟩ | ⟨h1, h2, h3⟩)
    · exact ⟨h1, by omega, h3⟩
    · exact ⟨by omega, h2, h3⟩
theorem gIdx_iff {gs : List GateR} {k : Nat} {x : Int} : x ∈ gIdx gs p q k ↔ ∃ (i : Nat) (g : GateR), x = i ∧ i < k ∧ gs[i]? = some g ∧ crB g p q = true := by
  constructor
  · exact gIdx_mem
  · rintro ⟨i, g, rfl, hi, hg, hc⟩
    unfold gIdx
    exact List.mem_map.2 ⟨i, List.mem_filter.2 ⟨List.mem_range.2 hi, by unfold gIs; rw [hg]; exact hc⟩, rfl⟩
theorem part_is {g : GateR} (h : crB g p q = true) : partOf g p q = ⟨-gSide g p, gSide g q - gSide g p⟩ := if_pos h
theorem ltG_iff {gs : List GateR} {i k : Nat} {g h : GateR} (hi : gs[i]? = some g) (hk : gs[k]? = some h) (h1 : crB g p q = true) (h2 : crB h p q = true) :
    ltG gs p q (i : Int) (k : Int) = decide (-gSide g p * (gSide h q - gSide h p) < -gSide h p * (gSide g q - gSide g p)) := by
  have b1 := crB_pos h1
  have b2 := crB_pos h2
  unfold ltG
  rw [gPart_at hi, gPart_at hk, part_is h1, part_is h2, posI_eq (n := gSide g q - gSide g p) (by omega), posI_eq (n := gSide h q - gSide h p) (by omega)]
theorem ltG_pm (hm : MidS p q m) {gs : List GateR} {i k : Nat} {g h : GateR} (hi : gs[i]? = some g) (hk : gs[k]? = some h) (h1 : crB g p m = true) (h2 : crB h p m = true) : ltG gs p q (i : Int) (k : Int) = ltG gs p m (i : Int) (k : Int) := by
  rw [ltG_iff hi hk ((crB_mid hm g).2 (.inl h1)) ((crB_mid hm h).2 (.inl h2)), ltG_iff hi hk h1 h2]
  have e1 : gSide g q - gSide g p = 2 * (gSide g m - gSide g p) := by have := side_mid hm g; omega
  have e2 : gSide h q - gSide h p = 2 * (gSide h m - gSide h p) := by have := side_mid hm h; omega
  rw [e1, e2, Int.mul_left_comm, Int.mul_left_comm (-gSide h p)]
  exact decide_eq_decide.2 (by omega)
theorem ltG_mq (hm : MidS p q m) {gs : List GateR} {i k : Nat} {g h : GateR} (hi : gs[i]? = some g) (hk : gs[k]? = some h) (h1 : crB g m q = true) (h2 : crB h m q = true) : ltG gs p q (i : Int) (k : Int) = ltG gs m q (i : Int) (k : Int) := by
  rw [ltG_iff hi hk ((crB_mid hm g).2 (.inr h1)) ((crB_mid hm h).2 (.inr h2)), ltG_iff hi hk h1 h2]
  have e1 : gSide g q - gSide g p = 2 * (gSide g q - gSide g m) := by have := side_mid hm g; omega
  have e2 : gSide h q - gSide h p = 2 * (gSide h q - gSide h m) := by have := side_mid hm h; omega
  have e3 : -gSide g p = -gSide g m + (gSide g q - gSide g m) := by have := side_mid hm g; omega
  have e4 : -gSide h p = -gSide h m + (gSide h q - gSide h m) := by have := side_mid hm h; omega
  rw [e1, e2, e3, e4, Int.mul_left_comm, Int.mul_left_comm (-gSide h m + _), Int.add_mul, Int.add_mul, Int.mul_comm (gSide h q - gSide h m) (gSide g q - gSide g m)]
  exact decide_eq_decide.2 (by omega)
theorem ltG_cr (hm : MidS p q m) {gs : List GateR} {i k : Nat} {g h : GateR} (hi : gs[i]? = some g) (hk : gs[k]? = some h) (h1 : crB g p m = true) (h2 : crB h m q = true) : ltG gs p q (i : Int) (k : Int) = true := by
  rw [ltG_iff hi hk ((crB_mid hm g).2 (.inl h1)) ((crB_mid hm h).2 (.inr h2)), decide_eq_true_eq]
  have s1 := side_mid hm g
  have s2 := side_mid hm h
  have b1 := crB_pos h1
  have b2 := crB_pos h2
  have e1 : gSide g q - gSide g p = 2 * (gSide g m - gSide g p) := by omega
  have e2 : gSide h q - gSide h p = 2 * (gSide h q - gSide h m) := by omega
  rw [e1, e2, Int.mul_left_comm, Int.mul_left_comm (-gSide h p)]
  have l1 := Int.mul_le_mul_of_nonneg_right (show -gSide g p ≤ gSide g m - gSide g p by omega) (show 0 ≤ gSide h q - gSide h m by omega)
  have l2 := Int.mul_lt_mul_of_pos_right (show gSide h q - gSide h m < -gSide h p by omega) (show 0 < gSide g m - gSide g p by omega)
  rw [Int.mul_comm (gSide h q - gSide h m)] at l2
  omega
theorem RR.of {lt lt' : Int → Int → Bool} {x y : Int} (h : RR lt x y) (e1 : lt' x y = lt x y) (e2 : lt' y x = lt y x) : RR lt' x y := by
  unfold RR at h ⊢; rw [e1, e2]; exact h
theorem gOrd_mid (hm : MidS p q m) (gs : List GateR) : gOrd gs p q gs.length = gOrd gs p m gs.length ++ gOrd gs m q gs.length := by
  symm
  apply gOrd_one
  · refine List.pairwise_append.2 ⟨?_, ?_, fun x hx y hy => ?_⟩
    · refine List.Pairwise.imp_of_mem ?_ (gOrd_pair gs p m gs.length)
      intro x y hx hy h
      obtain ⟨i, g, rfl, _, hi, hc⟩ := gIdx_mem (gOrd_mem.1 hx)
      obtain ⟨k, g2, rfl, _, hk, hc2⟩ := gIdx_mem (gOrd_mem.1 hy)
      exact h.of (ltG_pm hm hi hk hc hc2) (ltG_pm hm hk hi hc2 hc)
    · refine List.Pairwise.imp_of_mem ?_ (gOrd_pair gs m q gs.length)
      intro x y hx hy h
      obtain ⟨i, g, rfl, _, hi, hc⟩ := gIdx_mem (gOrd_mem.1 hx)
      obtain ⟨k, g2, rfl, _, hk, hc2⟩ := gIdx_mem (gOrd_mem.1 hy)
      exact h.of (ltG_mq hm hi hk hc hc2) (ltG_mq hm hk hi hc2 hc)
    · obtain ⟨i, g, rfl, _, hi, hc⟩ := gIdx_mem (gOrd_mem.1 hx)
      obtain ⟨k, g2, rfl, _, hk, hc2⟩ := gIdx_mem (gOrd_mem.1 hy)
      exact .inl (ltG_cr hm hi hk hc hc2)
  · intro x
    rw [List.mem_append, gOrd_mem, gOrd_mem, gIdx_iff, gIdx_iff, gIdx_iff]
    constructor
    · rintro (⟨i, g, h1, h2, h3, h4⟩ | ⟨i, g, h1, h2, h3, h4⟩)
      · exact ⟨i, g, h1, h2, h3, (crB_mid hm g).2 (.inl h4)⟩
      · exact ⟨i, g, h1, h2, h3, (crB_mid hm g).2 (.inr h4)⟩
    · rintro ⟨i, g, h1, h2, h3, h4⟩
      rcases (crB_mid hm g).1 h4 with h4 | h4
      · exact .inl ⟨i, g, h1, h2, h3, h4⟩
      · exact .inr ⟨i, g, h1, h2, h3, h4⟩
theorem gat_eq {gs : List GateR} {i : Nat} {g : GateR} (hi : gs[i]? = some g) (hc : crB g p q = true) : gat gs p q (i : Int) = ((i : Int), 1000 * p.at_ + -gSide g p * (1000 * (q.at_ - p.at_)) / (gSide g q - gSide g p)) := by
  unfold gat
  rw [crossOf_eq hi, part_is hc]; rfl
theorem gat_pm (hm : MidS p q m) {gs : List GateR} {i : Nat} {g : GateR} (hi : gs[i]? = some g) (hc : crB g p m = true) : gat gs p q (i : Int) = gat gs p m (i : Int) := by
  rw [gat_eq hi ((crB_mid hm g).2 (.inl hc)), gat_eq hi hc]
  have e1 : gSide g q - gSide g p = 2 * (gSide g m - gSide g p) := by have := side_mid hm g; omega
  have e2 : 1000 * (q.at_ - p.at_) = 2 * (1000 * (m.at_ - p.at_)) := by have := hm.at_; omega
  rw [e1, e2, Int.mul_left_comm, Int.mul_ediv_mul_of_pos _ _ (by decide)]
theorem gat_mq (hm : MidS p q m) {gs : List GateR} {i : Nat} {g : GateR} (hi : gs[i]? = some g) (hc : crB g m q = true) : gat gs p q (i : Int) = gat gs m q (i : Int) := by
  rw [gat_eq hi ((crB_mid hm g).2 (.inr hc)), gat_eq hi hc]
  have hb := crB_pos hc
  have e1 : gSide g q - gSide g p = 2 * (gSide g q - gSide g m) := by have := side_mid hm g; omega
  have e2 : 1000 * (q.at_ - p.at_) = 2 * (1000 * (q.at_ - m.at_)) := by have := hm.at_; omega
  have e3 : -gSide g p = -gSide g m + (gSide g q - gSide g m) := by have := side_mid hm g; omega
  rw [e1, e2, e3, Int.mul_left_comm, Int.mul_ediv_mul_of_pos _ _ (by decide), Int.add_mul, Int.add_mul_ediv_left _ _ (by omega)]
  have := hm.at_
  congr 1
  omega
theorem stG_mid (hm : MidS p q m) (gs : List GateR) : stG gs (p, q) = stG gs (p, m) ++ stG gs (m, q) := by
  unfold stG
  dsimp only
  rw [gOrd_mid hm, List.map_append]
  congr 1
  · refine List.map_congr_left fun x hx => ?_
    obtain ⟨i, g, rfl, _, hi, hc⟩ := gIdx_mem (gOrd_mem.1 hx)
    exact gat_pm hm hi hc
  · refine List.map_congr_left fun x hx => ?_
    obtain ⟨i, g, rfl, _, hi, hc⟩ := gIdx_mem (gOrd_mem.1 hx)
    exact gat_mq hm hi hc
end
/-! #### one sample more -/
theorem steps_app (x : SmpR) (r : List SmpR) : ∀ l : List SmpR, stepsL (l ++ x :: r) = stepsL (l ++ [x]) ++ stepsL (x :: r)
  | [] => rfl
  | [a] => rfl
  | a :: b :: l => by
    have ih := steps_app x r (b :: l)
    show (a, b) :: stepsL (b :: l ++ x :: r) = (a, b) :: stepsL (b :: l ++ [x]) ++ _
    rw [ih]; rfl
/-- Samples with one more behind the n-th. -/
def insS (ss : List SmpR) (n : Nat) (m : SmpR) : List SmpR := ss.take (n + 1) ++ m :: ss.drop (n + 1)
theorem list_two {ss : List SmpR} {n : Nat} {p q : SmpR} (hp : ss[n]? = some p) (hq : ss[n + 1]? = some q) : ss = ss.take n ++ p :: q :: ss.drop (n + 2) := by
  have hl1 := (List.getElem?_eq_some_iff.1 hp).1
  rw [← drop_cons_get hq, ← drop_cons_get hp, List.take_append_drop]
theorem insS_eq {ss : List SmpR} {n : Nat} {p q m : SmpR} (hp : ss[n]? = some p) (hq : ss[n + 1]? = some q) : insS ss n m = ss.take n ++ p :: m :: q :: ss.drop (n + 2) := by
  unfold insS
  rw [take_succ_get hp, drop_cons_get hq, List.append_assoc]; rfl
theorem insS_steps {ss : List SmpR} {n : Nat} {p q m : SmpR} (hp : ss[n]? = some p) (hq : ss[n + 1]? = some q) : stepsL ss = stepsL (ss.take n ++ [p]) ++ (p, q) :: stepsL (q :: ss.drop (n + 2)) ∧ stepsL (insS ss n m) = stepsL (ss.take n ++ [p]) ++ (p, m) :: (m, q) :: stepsL (q :: ss.drop (n + 2)) := by
  constructor
  · have h := list_two hp hq
    have e : stepsL ss = stepsL (ss.take n ++ p :: q :: ss.drop (n + 2)) := by rw [← h]
    rw [e, steps_app]; rfl
  · rw [insS_eq hp hq, steps_app]; rfl
theorem crossG_ins {ss : List SmpR} {n : Nat} {p q m : SmpR} (hp : ss[n]? = some p) (hq : ss[n + 1]? = some q) (hm : MidS p q m) (gs : List GateR) : crossG gs (stepsL (insS ss n m)) = crossG gs (stepsL ss) := by
  obtain ⟨h1, h2⟩ := insS_steps (m := m) hp hq
  rw [h1, h2, crossG_app, crossG_app, crossG_cons, crossG_cons, crossG_cons, stG_mid hm, List.append_assoc]
theorem rise_steps {ss : List SmpR} : (∀ i x y, ss[i]? = some x → ss[i + 1]? = some y → x.at_ < y.at_) ↔ ∀ e ∈ stepsL ss, e.1.at_ < e.2.at_ := by
  constructor
  · intro h e he
    obtain ⟨k, hk⟩ := List.mem_iff_getElem?.1 he
    have := stepsL_inv hk
    exact h k _ _ this.1 this.2
  · intro h i x y hx hy
    exact h (x, y) (List.mem_of_getElem? (stepsL_get hx hy))
theorem ins_len {ss : List SmpR} {n : Nat} {m : SmpR} (h : n + 1 < ss.length) : (insS ss n m).length = ss.length + 1 := by
  unfold insS
  rw [List.length_append, List.length_cons, List.length_take, List.length_drop]; omega
theorem ins_span {ss : List SmpR} {n : Nat} {m : SmpR} (h : n + 1 < ss.length) : spanL (insS ss n m) = spanL ss := by
  have hx := List.getElem?_eq_getElem (l := ss) (i := ss.length - 1) (by omega)
  rw [spanL_get hx (by omega)]
  refine spanL_get (k := ss.length) ?_ (by rw [ins_len h])
  unfold insS
  rw [List.getElem?_append_right (by rw [List.length_take]; omega), List.length_take, show ss.length - min (n + 1) ss.length = (ss.length - n - 2) + 1 by omega, List.getElem?_cons_succ, List.getElem?_drop, ← hx]
  congr 1; omega
/-- The sample between two. -/
def midR (p q : SmpR) : SmpR := ⟨(p.at_ + q.at_).tdiv 2, (p.x + q.x).tdiv 2, (p.y + q.y).tdiv 2, p.z, p.pulse, p.power, p.steps⟩
theorem mid_ok {p q : SmpR} (h1 : (p.at_ + q.at_).tmod 2 = 0) (h2 : (p.x + q.x).tmod 2 = 0) (h3 : (p.y + q.y).tmod 2 = 0) : MidS p q (midR p q) := by
  refine ⟨?_, ?_, ?_⟩
  · show 2 * (p.at_ + q.at_).tdiv 2 = _; have := Int.mul_tdiv_add_tmod (p.at_ + q.at_) 2; omega
  · show 2 * (p.x + q.x).tdiv 2 = _; have := Int.mul_tdiv_add_tmod (p.x + q.x) 2; omega
  · show 2 * (p.y + q.y).tdiv 2 = _; have := Int.mul_tdiv_add_tmod (p.y + q.y) 2; omega
def insD (a : ActD) (n : Nat) (m : SmpR) : ActD := ⟨a.name, a.sport, a.start, insS a.ss n m, a.ls, a.ts⟩
theorem ins_good {a : ActD} {n : Nat} {p q : SmpR} (hg : GoodA a) (hp : a.ss[n]? = some p) (hq : a.ss[n + 1]? = some q) (hl : a.ss.length < 20000) (hm : MidS p q (midR p q)) : GoodA (insD a n (midR p q)) := by
  have hlt := (List.getElem?_eq_some_iff.1 hq).1
  have hs := hg.smp
  have hr := hs.rise _ _ _ hp hq
  have bp := hs.bd p (List.mem_of_getElem? hp)
  have bq := hs.bd q (List.mem_of_getElem? hq)
  have h1 := hm.at_
  have h2 := hm.x
  have h3 := hm.y
  have hok : SmpOk a.start (insS a.ss n (midR p q)) := by
    refine ⟨by rw [ins_len hlt]; omega, fun x hx => ?_, rise_steps.2 fun e he => ?_, fun x hx => ?_⟩
    · refine hs.first x ?_
      rw [← hx]
      unfold insS
      rw [List.getElem?_append_left (by rw [List.length_take]; omega), List.getElem?_take, if_pos (by omega)]
    · obtain ⟨i1, i2⟩ := insS_steps (m := midR p q) hp hq
      have hall := rise_steps.1 hs.rise
      rw [i1] at hall
      rw [i2] at he
      rcases List.mem_append.1 he with he | he
      · exact hall e (List.mem_append.2 (.inl he))
      · rcases List.mem_cons.1 he with rfl | he
        · show p.at_ < (midR p q).at_; omega
        · rcases List.mem_cons.1 he with rfl | he
          · show (midR p q).at_ < q.at_; omega
          · exact hall e (List.mem_append.2 (.inr (List.mem_cons_of_mem _ he)))
    · have : x ∈ a.ss ∨ x = midR p q := by
        unfold insS at hx
        rcases List.mem_append.1 hx with hx | hx
        · exact .inl (List.mem_of_mem_take hx)
        · rcases List.mem_cons.1 hx with rfl | hx
          · exact .inr rfl
          · exact .inl (List.mem_of_mem_drop hx)
      rcases this with hx | rfl
      · exact hs.bd x hx
      · exact ⟨by omega, by omega, by omega, by omega, by omega, bp.2.2.2.2.2⟩
  have hh := hg.head
  refine ⟨⟨hh.1, hh.2.1, hh.2.2.1, ?_, hh.2.2.2.2⟩, smp_chkT hok, ?_, hg.t⟩
  · show (insS a.ss n (midR p q)).length ≤ 20000
    rw [ins_len hlt]; omega
  · show chkE (fL (spanL (insS a.ss n (midR p q)))) none a.ls = 0
    rw [ins_span hlt]; exact hg.l
/-! #### moved in time -/
def shC (b : Int) (c : Int × Int) : Int × Int := (c.1, c.2 - 1000 * b)
def shL (b : Int) (l : List Int) : List Int := l.map fun t => t - 1000 * b
theorem stG_back (gs : List GateR) (b : Int) (x : SmpR × SmpR) : stG gs (bk2 b x) = (stG gs x).map (shC b) := by
  have e : gOrd gs (bk2 b x).1 (bk2 b x).2 gs.length = gOrd gs x.1 x.2 gs.length := rfl
  unfold stG
  rw [e, List.map_map]
  refine List.map_congr_left fun i hi => ?_
  obtain ⟨j, g, rfl, _, hg, hc⟩ := gIdx_mem (gOrd_mem.1 hi)
  have hc2 : crB g (bk2 b x).1 (bk2 b x).2 = true := hc
  rw [Function.comp_apply, gat_eq hg hc, gat_eq hg hc2]
  have e1 : gSide g (bk2 b x).1 = gSide g x.1 := rfl
  have e2 : gSide g (bk2 b x).2 = gSide g x.2 := rfl
  have e3 : (bk2 b x).1.at_ = x.1.at_ - b := rfl
  have e4 : (bk2 b x).2.at_ - (x.1.at_ - b) = x.2.at_ - x.1.at_ := by
    show x.2.at_ - b - (x.1.at_ - b) = _; omega
  rw [e1, e2, e3, e4]
  show (_, _) = (_, _ - 1000 * b)
  congr 1
  omega
theorem crossG_back (gs : List GateR) (b : Int) (st : List (SmpR × SmpR)) : crossG gs (st.map (bk2 b)) = (crossG gs st).map (shC b) := by
  induction st with
  | nil => rfl
  | cons x r ih => rw [List.map_cons, crossG_cons, crossG_cons, List.map_append, ih, stG_back]
theorem effF_back (G : Nat) (b : Int) : ∀ (l : List (Int × Int)) (s : List (List Int) × List Int), effF G (s.1.map (shL b), shL b s.2) (l.map (shC b)) = ((effF G s l).1.map (shL b), shL b (effF G s l).2)
  | [], s => rfl
  | c :: l, s => by
    have hlen : (shL b s.2).length = s.2.length := by unfold shL; rw [List.length_map]
    have e : effS1 G (s.1.map (shL b), shL b s.2) (shC b c) = ((effS1 G s c).1.map (shL b), shL b (effS1 G s c).2) := by
      by_cases h1 : c.1 = 0
      · rw [eff1_a (c := shC b c) h1, eff1_a h1]; rfl
      · by_cases h2 : 0 < s.2.length ∧ (s.2.length : Int) = c.1
        · have h2' : 0 < (shL b s.2).length ∧ ((shL b s.2).length : Int) = (shC b c).1 := by rw [hlen]; exact h2
          by_cases h3 : s.2.length + 1 = G
          · rw [eff1_c (c := shC b c) h1 h2' (by dsimp only; rw [hlen]; exact h3), eff1_c h1 h2 h3]
            simp [shL, shC]
          · rw [eff1_d (c := shC b c) h1 h2' (by dsimp only; rw [hlen]; exact h3), eff1_d h1 h2 h3]
            simp [shL, shC]
        · have h2' : ¬(0 < (shL b s.2).length ∧ ((shL b s.2).length : Int) = (shC b c).1) := by rw [hlen]; exact h2
          rw [eff1_b (c := shC b c) h1 h2', eff1_b h1 h2]
    have ih := effF_back G b l (effS1 G s c)
    show effF G (effS1 G (s.1.map (shL b), shL b s.2) (shC b c)) (l.map (shC b)) = _
    rw [e, ih]; rfl
/-! #### efforts of a part -/
def OldI (X : Int) (l : List Int) : Prop := ∀ t, l.head? = some t → t ≤ X
theorem head_app {l : List Int} {x : Int} (h : 0 < l.length) : (l ++ [x]).head? = l.head? := by
  cases l with
  | nil => simp at h
  | cons a r => rfl
theorem eff_pre {G : Nat} {X : Int} : ∀ (l : List (Int × Int)) (s : List (List Int) × List Int), (∀ c ∈ l, c.2 ≤ X) → (∀ z ∈ s.1, OldI X z) → OldI X s.2 → (∀ z ∈ (effF G s l).1, OldI X z) ∧ OldI X (effF G s l).2
  | [], s, _, h1, h2 => ⟨h1, h2⟩
  | c :: l, s, hl, h1, h2 => by
    have hc := hl c (List.mem_cons_self ..)
    have key : (∀ z ∈ (effS1 G s c).1, OldI X z) ∧ OldI X (effS1 G s c).2 := by
      by_cases e1 : c.1 = 0
      · rw [eff1_a e1]; exact ⟨h1, fun t ht => by simp at ht; omega⟩
      · by_cases e2 : 0 < s.2.length ∧ (s.2.length : Int) = c.1
        · have h3 : OldI X (s.2 ++ [c.2]) := fun t ht => by rw [head_app e2.1] at ht; exact h2 t ht
          by_cases e3 : s.2.length + 1 = G
          · rw [eff1_c e1 e2 e3]
            refine ⟨fun z hz => ?_, fun t ht => by simp at ht⟩
            rcases List.mem_append.1 hz with hz | hz
            · exact h1 z hz
            · simp at hz; subst hz; exact h3
          · rw [eff1_d e1 e2 e3]; exact ⟨h1, h3⟩
        · rw [eff1_b e1 e2]; exact ⟨h1, h2⟩
    exact eff_pre l _ (fun x hx => hl x (List.mem_cons_of_mem _ hx)) key.1 key.2
theorem eff_in {G : Nat} {X : Int} : ∀ (l : List (Int × Int)) (s r : List (List Int) × List Int), (∀ z ∈ s.1, z ∈ r.1 ∨ OldI X z) → (s.2 = r.2 ∨ r.2 = [] ∧ OldI X s.2) → ∀ z ∈ (effF G s l).1, z ∈ (effF G r l).1 ∨ OldI X z
  | [], s, r, h1, _ => h1
  | c :: l, s, r, h1, h2 => by
    have key : (∀ z ∈ (effS1 G s c).1, z ∈ (effS1 G r c).1 ∨ OldI X z) ∧ ((effS1 G s c).2 = (effS1 G r c).2 ∨ (effS1 G r c).2 = [] ∧ OldI X (effS1 G s c).2) := by
      by_cases e1 : c.1 = 0
      · rw [eff1_a e1, eff1_a e1]; exact ⟨h1, .inl rfl⟩
      · rcases h2 with h2 | ⟨h2, h3⟩
        · by_cases e2 : 0 < s.2.length ∧ (s.2.length : Int) = c.1
          · have e2' := e2
            rw [h2] at e2'
            by_cases e3 : s.2.length + 1 = G
            · rw [eff1_c e1 e2 e3, eff1_c e1 e2' (by rw [← h2]; exact e3)]
              refine ⟨fun z hz => ?_, .inl rfl⟩
              rcases List.mem_append.1 hz with hz | hz
              · rcases h1 z hz with h | h
                · exact .inl (List.mem_append.2 (.inl h))
                · exact .inr h
              · exact .inl (List.mem_append.2 (.inr (by rw [← h2]; exact hz)))
            · rw [eff1_d e1 e2 e3, eff1_d e1 e2' (by rw [← h2]; exact e3)]
              exact ⟨h1, .inl (by rw [h2])⟩
          · rw [eff1_b e1 e2, eff1_b e1 (by rw [← h2]; exact e2)]; exact ⟨h1, .inl h2⟩
        · have er : effS1 G r c = r := eff1_b e1 (by rw [h2]; simp)
          rw [er]
          by_cases e2 : 0 < s.2.length ∧ (s.2.length : Int) = c.1
          · have h4 : OldI X (s.2 ++ [c.2]) := fun t ht => by rw [head_app e2.1] at ht; exact h3 t ht
            by_cases e3 : s.2.length + 1 = G
            · rw [eff1_c e1 e2 e3]
              refine ⟨fun z hz => ?_, .inr ⟨h2, fun t ht => by simp at ht⟩⟩
              rcases List.mem_append.1 hz with hz | hz
              · exact h1 z hz
              · simp at hz; subst hz; exact .inr h4
            · rw [eff1_d e1 e2 e3]; exact ⟨h1, .inr ⟨h2, h4⟩⟩
          · rw [eff1_b e1 e2]; exact ⟨h1, .inr ⟨h2, h3⟩⟩
    exact eff_in l _ _ key.1 key.2
def NewI (Y : Int) (l : List Int) : Prop := ∃ t, l.getLast? = some t ∧ Y ≤ t
theorem eff_post {G : Nat} {Y : Int} (K : List (List Int)) : ∀ (l : List (Int × Int)) (s : List (List Int) × List Int), (∀ c ∈ l, Y ≤ c.2) → (∀ z ∈ s.1, z ∈ K ∨ NewI Y z) → ∀ z ∈ (effF G s l).1, z ∈ K ∨ NewI Y z
  | [], s, _, h1 => h1
  | c :: l, s, hl, h1 => by
    have hc := hl c (List.mem_cons_self ..)
    have key : ∀ z ∈ (effS1 G s c).1, z ∈ K ∨ NewI Y z := by
      by_cases e1 : c.1 = 0
      · rw [eff1_a e1]; exact h1
      · by_cases e2 : 0 < s.2.length ∧ (s.2.length : Int) = c.1
        · by_cases e3 : s.2.length + 1 = G
          · rw [eff1_c e1 e2 e3]
            intro z hz
            rcases List.mem_append.1 hz with hz | hz
            · exact h1 z hz
            · simp at hz; subst hz; exact .inr ⟨c.2, by simp, hc⟩
          · rw [eff1_d e1 e2 e3]; exact h1
        · rw [eff1_b e1 e2]; exact h1
    exact eff_post K l _ (fun x hx => hl x (List.mem_cons_of_mem _ hx)) key
theorem eff_sub {G : Nat} {X Y : Int} {pre mid post : List (Int × Int)} (h1 : ∀ c ∈ pre, c.2 ≤ X) (h2 : ∀ c ∈ post, Y ≤ c.2) {z : List Int} (hz : z ∈ (effF G ([], []) (pre ++ mid ++ post)).1) (hX : ¬OldI X z) (hY : ¬NewI Y z) : z ∈ (effF G ([], []) mid).1 := by
  rw [effF_app, effF_app] at hz
  have hp := eff_pre (G := G) pre ([], []) h1 (fun z h => by simp at h) (fun t ht => by simp at ht)
  have hm := eff_in (G := G) mid (effF G ([], []) pre) ([], []) (fun z hz => .inr (hp.1 z hz)) (.inr ⟨rfl, hp.2⟩)
  rcases eff_post (G := G) _ post _ h2 (fun z hz => .inl hz) z hz with h | h
  · rcases hm z h with h | h
    · exact h
    · exact absurd h hX
  · exact absurd h hY
theorem crossG_bd {gs : List GateR} {st : Int} {ss : List SmpR} (hg : ∀ g ∈ gs, ∀ o, fG o g = 0) (hok : SmpOk st ss) {l : List (SmpR × SmpR)} (hl : ∀ x ∈ l, x ∈ stepsL ss) {c : Int × Int} (hc : c ∈ crossG gs l) : ∃ x ∈ l, 1000 * x.1.at_ ≤ c.2 ∧ c.2 ≤ 1000 * x.2.at_ := by
  obtain ⟨x, hx, hc⟩ := List.mem_flatMap.1 hc
  obtain ⟨i, hi, rfl⟩ := List.mem_map.1 hc
  obtain ⟨j, g, rfl, _, hgj, hcr⟩ := gIdx_mem (gOrd_mem.1 hi)
  obtain ⟨k, hk⟩ := List.mem_iff_getElem?.1 (hl x hx)
  have hxx := stepsL_inv hk
  have b1 := hok.bd _ (List.mem_of_getElem? hxx.1)
  have b2 := hok.bd _ (List.mem_of_getElem? hxx.2)
  have hr := hok.rise _ _ _ hxx.1 hxx.2
  have h1 := cross_at (k := 0) hg (hok.place (List.mem_of_getElem? hxx.1)) (hok.place (List.mem_of_getElem? hxx.2)) hgj hcr (by omega)
  exact ⟨x, hx, h1.1, h1.2.1⟩
/-- An effort in a part of an activity, cut at samples, is there too. -/
theorem cut_found {gs : List GateR} {G : Nat} {st : Int} {ss : List SmpR} (hg : ∀ g ∈ gs, ∀ o, fG o g = 0) (hok : SmpOk st ss) {i j : Nat} {x y : SmpR} (hij : i < j) (hx : ss[i]? = some x) (hy : ss[j]? = some y) {z : List Int} {t u : Int}
    (hz : z ∈ effL G (crossS gs (stepsL ss) (stepsL ss).length)) (h1 : z.head? = some t) (h2 : z.getLast? = some u) (h3 : 1000 * x.at_ < t) (h4 : u < 1000 * y.at_) :
    shL x.at_ z ∈ effL G (crossS gs (stepsL (backS x.at_ (pcS ss i (j - i + 1)))) (stepsL (backS x.at_ (pcS ss i (j - i + 1)))).length) := by
  rw [effL_G] at hz ⊢
  have e1 : stepsL (backS x.at_ (pcS ss i (j - i + 1))) = (((stepsL ss).drop i).take (j - i)).map (bk2 x.at_) := by
    rw [steps_back]
    unfold pcS
    rw [steps_take, steps_drop]
  have e2 : stepsL ss = (stepsL ss).take i ++ ((stepsL ss).drop i).take (j - i) ++ (stepsL ss).drop j := by
    rw [List.append_assoc, show (stepsL ss).drop j = ((stepsL ss).drop i).drop (j - i) by rw [List.drop_drop]; congr 1; omega, List.take_append_drop, List.take_append_drop]
  rw [e1, crossG_back]
  have hF := effF_back G x.at_ (crossG gs (((stepsL ss).drop i).take (j - i))) ([], [])
  have hF' : effF G ([], []) ((crossG gs (((stepsL ss).drop i).take (j - i))).map (shC x.at_)) = _ := hF
  rw [hF']
  refine List.mem_map.2 ⟨z, ?_, rfl⟩
  rw [e2, crossG_app, crossG_app] at hz
  refine eff_sub (X := 1000 * x.at_) (Y := 1000 * y.at_) (fun c hc => ?_) (fun c hc => ?_) hz (fun h => ?_) (fun ⟨v, hv, h⟩ => ?_)
  · obtain ⟨s, hs, _, hb⟩ := crossG_bd hg hok (fun s hs => List.mem_of_mem_take hs) hc
    obtain ⟨k, hk⟩ := List.mem_iff_getElem?.1 hs
    rw [List.getElem?_take] at hk
    split at hk
    · have hxx := stepsL_inv hk
      have := hok.upto (i - (k + 1)) (k + 1) s.2 x hxx.2 (by rw [show k + 1 + (i - (k + 1)) = i by omega]; exact hx)
      omega
    · cases hk
  · obtain ⟨s, hs, hb, _⟩ := crossG_bd hg hok (fun s hs => List.mem_of_mem_drop hs) hc
    obtain ⟨k, hk⟩ := List.mem_iff_getElem?.1 hs
    rw [List.getElem?_drop] at hk
    have hxx := stepsL_inv hk
    have := hok.upto k j y s.1 hy hxx.1
    omega
  · have := h t h1; omega
  · rw [h2] at hv; cases hv; omega
end Go.Proofs.Ytfbmkepogcimlaa

/-
  Efforts compared, and looked for, at the top.
-/



namespace Go.Proofs.Ytfbmkepogcimlaa
open Go Go.RowKit Hx
set_option linter.unusedVariables false
set_option linter.unusedSimpArgs false
set_option maxRecDepth 8000
theorem ty63 : Ty Try.prog 63 encSl := .inr ⟨ag63, fun _ => rfl⟩
theorem top_same (a b : Option Addr) (n m c1 c2 : Nat) (xs ys : List Int) (w : World) (hx : Rd encI w.heap.size w a n c1 xs) (hy : Rd encI w.heap.size w b m c2 ys) :
    Calls Try.prog 13 #[.agg #[.slice a n c1], .agg #[.slice b m c2]] w fun e w' => e = .returned (.bool (decide (xs = ys))) ∧ Below w.heap.size w w' := by
  refine enterQ (N := 10) (C := fun _ => True) (H := []) (B := w.heap.size) (args := [_, _]) Try.func13 rfl rfl rfl (Nat.le_refl _) (Sat.nil _ _) fun Q hQ => ?_
  refine wp_seq' fun K1 hK1 => ?_
  refine wp_reg ?_
  refine ol_box 2 rfl rfl rfl fun b2 => ?_
  refine ol_box 3 rfl rfl rfl fun b3 => ?_
  refine ol_r (r_assign rfl) rfl ?_
  refine ol_nil (to_k0 (fun _ _ h => h) (hK1 _ _ _ _ _ ?_))
  clear hK1
  refine wp_seq' fun K2 hK2 => ?_
  refine wp_reg ?_
  refine ol_r (r_fa (o' := 0) rfl fl63_0 rfl) rfl ?_
  refine ol_r (r_ld (id := 2) rfl rfl rfl sc61) rfl ?_
  refine ol_r (r_fa (o' := 0) rfl fl63_0 rfl) rfl ?_
  refine ol_r (r_ld (id := 3) rfl rfl rfl sc61) rfl ?_
  refine ol_call rfl rfl cb14 rfl (fun w1 hb1 hs1 hB1 => Calls.mono (equal_int _ _ _ _ _ _ xs ys _ (hx.at hb1 hB1) (hy.at hb1 hB1)) ?_)
  rintro e w2 ⟨rfl, hb2⟩
  refine After.below rfl hb1 hs1 hB1 hb2 ?_
  clear hb2 hB1 hs1 hb1 w2 w1
  refine ol_r (r_assign rfl) rfl ?_
  refine ol_nil (to_k0 (fun _ _ h => h) (hK2 _ _ _ _ _ ?_))
  clear hK2
  refine hQ.ret (rvs1 (rv_t rfl)) (fun _ _ h => h) fun w hb hs hB hkd => ?_
  exact ⟨rfl, hb⟩
theorem top_same_func (a b : Option Addr) (n c1 c2 : Nat) (L M : List (Sl × List Int)) (w : World) (hL : RdE w.heap.size w a n c1 L) (hM : RdE w.heap.size w b n c2 M) (hLM : L.map (·.2) = M.map (·.2)) :
    Calls Try.prog 16 #[.slice a n c1, .slice b n c2, .func (.func 13) #[] #[]] w fun e w' => e = .returned (.bool true) ∧ Below w.heap.size w w' := by
  have hn := hL.len
  have hO := hL.out
  have hO2 := hM.out
  have hf := hO.fit
  have hml : (L.map (·.1)).length = n := by rw [List.length_map]; exact hn
  have hml2 : (M.map (·.1)).length = n := by rw [List.length_map]; exact hM.len
  refine enterQ (N := 32) (C := fun _ => True) (H := []) (B := w.heap.size) (args := [_, _, _]) Try.func16 rfl rfl rfl (Nat.le_refl _) (Sat.nil _ _) fun Q hQ => ?_
  refine wp_seq' fun K1 hK1 => ?_
  refine wp_reg ?_
  refine ol_r (r_assign rfl) rfl ?_
  refine ol_nil (to_k0 (fun _ _ h => h) (hK1 _ _ _ _ _ ?_))
  clear hK1
  refine wp_seq' fun K2 hK2 => ?_
  refine wp_seq' fun K3 hK3 => ?_
  refine wp_reg ?_
  refine ol_r (r_move rfl) rfl ?_
  refine ol_r (r_len rfl sl58) rfl ?_
  refine ol_r (r_move rfl) rfl ?_
  refine ol_r (r_len rfl sl58) rfl ?_
  refine ol_r (r_neq rfl rfl) rfl ?_
  refine ol_nil (to_k0 (fun _ _ h => h) (hK3 _ _ _ _ _ ?_))
  clear hK3
  first | refine wp_condD rfl (fun hc14 => ?_) (fun hc14 => ?_) | refine wp_condN rfl (fun hc14 => ?_) (fun hc14 => ?_) | refine wp_condNB rfl (fun hc14 => ?_) (fun hc14 => ?_) | refine wp_cond' rfl (fun hc14 => ?_) (fun hc14 => ?_)
  ·exfalso
   exact hc14 rfl
  ·refine wp_skip' (to_k0 (fun _ _ h => h) (hK2 _ _ _ _ _ ?_))
   clear hK2
   refine wp_seq' fun K4 hK4 => ?_
   refine wp_seq' fun K5 hK5 => ?_
   refine wp_reg ?_
   refine ol_r (r_move rfl) rfl ?_
   refine ol_r (r_len rfl sl58) rfl ?_
   refine ol_r (r_move rfl) rfl ?_
   refine ol_nil (to_k0 (fun _ _ h => h) (hK5 _ _ _ _ _ ?_))
   clear hK5
   refine wp_block' ?_
   apply wp_loopM (σ := Nat) (fun s => s ≤ n) (fun s => [(17, .int .i64 s)]) [(1, _), (2, _), (15, _), (16, _)] (fun s => []) [] (fun s => n - s) (0)
   ·try dsimp only
    exact Nat.zero_le _
   ·exact (sub_cons rfl sub_nil)
   ·exact (sub_cons rfl (sub_cons rfl (sub_cons rfl (sub_cons rfl sub_nil))))
   ·exact subH_nil
   ·exact subH_nil
   ·rintro k hk
    intro K6 hK6
    refine wp_seq' fun K7 hK7 => ?_
    refine wp_reg ?_
    refine ol_r (r_lss rfl rfl) rfl ?_
    refine ol_nil (to_k0 (fun _ _ h => h) (hK7 _ _ _ _ _ ?_))
    clear hK7
    refine wp_seq' fun K8 hK8 => ?_
    first | refine wp_condD rfl (fun hc18 => ?_) (fun hc18 => ?_) | refine wp_condN rfl (fun hc18 => ?_) (fun hc18 => ?_) | refine wp_condNB rfl (fun hc18 => ?_) (fun hc18 => ?_) | refine wp_cond' rfl (fun hc18 => ?_) (fun hc18 => ?_)
    ·refine wp_skip' (to_k0 (fun _ _ h => h) (hK8 _ _ _ _ _ ?_))
     clear hK8
     refine wp_seq' fun K9 hK9 => ?_
     refine wp_block' ?_
     refine wp_seq' fun K10 hK10 => ?_
     refine wp_reg ?_
     refine ol_r (r_move rfl) rfl ?_
     refine ol_ixr hO rfl rfl sl58 (by omega) rfl fun x20 hx20 => ?_
     try simp only [Int.toNat_natCast] at hx20
     refine ol_r (r_ldw rfl (fun w1 hb1 hs1 hB1 => Rd.loads hO ty63 hx20 hb1)) rfl ?_
     refine ol_alloc 8 z63 rfl fun b8 => ?_
     refine ol_r (r_assign rfl) rfl ?_
     refine ol_store (id := 8) rfl rfl rfl rfl sz63 rfl rfl (by first | decide | exact Nat.zero_lt_succ _ | simp) ?_
     refine ol_nil (to_k0 (fun _ _ h => h) (hK10 _ _ _ _ _ ?_))
     clear hK10
     refine wp_seq' fun K11 hK11 => ?_
     refine wp_reg ?_
     refine ol_r (r_move rfl) rfl ?_
     refine ol_r (r_move rfl) rfl ?_
     refine ol_ixr hO2 rfl rfl sl58 (by omega) rfl fun x24 hx24 => ?_
     try simp only [Int.toNat_natCast] at hx24
     refine ol_r (r_ldw rfl (fun w1 hb1 hs1 hB1 => Rd.loads hO2 ty63 hx24 hb1)) rfl ?_
     refine ol_alloc 9 z63 rfl fun b9 => ?_
     refine ol_store (id := 9) rfl rfl rfl rfl sz63 rfl rfl (by first | decide | exact Nat.zero_lt_succ _ | simp) ?_
     refine ol_nil (to_k0 (fun _ _ h => h) (hK11 _ _ _ _ _ ?_))
     clear hK11
     refine wp_seq' fun K12 hK12 => ?_
     refine wp_reg ?_
     refine ol_r (r_move rfl) rfl ?_
     refine ol_r (r_lda (id := 8) (n := 1) rfl rfl rfl ag63) rfl ?_
     refine ol_r (r_lda (id := 9) (n := 1) rfl rfl rfl ag63) rfl ?_
     obtain ⟨y, hy, hey⟩ : ∃ y, L[k]? = some y ∧ y.1 = x20 := by
       have h9 : (L.map (·.1))[k]? = some x20 := by simpa using hx20
       rw [List.getElem?_map] at h9
       obtain ⟨y0, e1, e2⟩ := Option.map_eq_some_iff.1 h9
       exact ⟨y0, e1, e2⟩
     obtain ⟨z, hz, hez⟩ : ∃ z, M[k]? = some z ∧ z.1 = x24 := by
       have h9 : (M.map (·.1))[k]? = some x24 := by simpa using hx24
       rw [List.getElem?_map] at h9
       obtain ⟨y0, e1, e2⟩ := Option.map_eq_some_iff.1 h9
       exact ⟨y0, e1, e2⟩
     subst hey
     subst hez
     have hyz : z.2 = y.2 := by
       have h1 : (L.map (·.2))[k]? = some y.2 := by rw [List.getElem?_map, hy]; rfl
       rw [hLM, List.getElem?_map, hz] at h1
       exact Option.some.inj h1
     have hzr := hM.inn k z hz
     refine ol_call rfl rfl cb13 rfl (fun w1 hb1 hs1 hB1 => Calls.mono (top_same _ _ _ _ _ _ y.2 z.2 _ ((hL.inn k y hy).at hb1 hB1) (hzr.at hb1 hB1)) ?_)
     rintro e w2 ⟨rfl, hb2⟩
     refine After.below rfl hb1 hs1 hB1 hb2 ?_
     clear hb2 hB1 hs1 hb1 w2 w1
     refine ol_r (r_not rfl) rfl ?_
     refine ol_nil (to_k0 (fun _ _ h => h) (hK12 _ _ _ _ _ ?_))
     clear hK12
     first | refine wp_condD rfl (fun hc30 => ?_) (fun hc30 => ?_) | refine wp_condN rfl (fun hc30 => ?_) (fun hc30 => ?_) | refine wp_condNB rfl (fun hc30 => ?_) (fun hc30 => ?_) | refine wp_cond' rfl (fun hc30 => ?_) (fun hc30 => ?_)
     ·exfalso
      exact hc30 hyz.symm
     ·refine wp_skip' (to_k0 (fun _ _ h => h) (hK9 _ _ _ _ _ ?_))
      clear hK9
      refine wp_reg ?_
      refine ol_r (r_add rfl rfl (by omega)) rfl ?_
      refine ol_r (r_move rfl) rfl ?_
      refine ol_nil (to_k0 (fun _ _ h => h) (hK6 (k + 1) _ _ ?_ ?_ (sub_cons rfl sub_nil) (sub_cons rfl (sub_cons rfl (sub_cons rfl (sub_cons rfl sub_nil)))) (by exact subH_nil) subH_nil))
      ·try dsimp only
       omega
      ·try dsimp only
       omega
    ·refine wp_exit' (to_k0 (fun _ _ h => h) (hK4 _ _ _ _ _ ?_))
     clear hK4
     refine wp_seq' fun K13 hK13 => ?_
     refine wp_reg ?_
     refine ol_r (r_assign rfl) rfl ?_
     refine ol_nil (to_k0 (fun _ _ h => h) (hK13 _ _ _ _ _ ?_))
     clear hK13
     refine hQ.ret (rvs1 (rv_t rfl)) (fun _ _ h => h) fun w hb hs hB hkd => ?_
     exact ⟨rfl, hb⟩
/-- Cells that hold the comparison, and a row. -/
theorem top_found (x y : Sl) (xs ys : List Int) (b1 b2 : Nat) (w : World) (h1 : Blk w.heap.size w b1 [(0, .func (.func 13) #[] #[])]) (h2 : Blk w.heap.size w b2 [(0, .slice y.1 y.2.1 y.2.2)]) (hx : Rd encI w.heap.size w x.1 x.2.1 x.2.2 xs) (hy : Rd encI w.heap.size w y.1 y.2.1 y.2.2 ys) :
    Calls Try.prog 19 #[encSl.val x, .pointer (some ⟨b1, 0, none⟩), .pointer (some ⟨b2, 0, none⟩)] w fun e w' => e = .returned (.bool (decide (xs = ys))) ∧ Below w.heap.size w w' := by
  refine enterQ (N := 9) (C := fun _ => True) (H := []) (B := w.heap.size) (args := [_, _, _]) Try.func19 rfl rfl rfl (Nat.le_refl _) (Sat.nil _ _) fun Q hQ => ?_
  refine wp_seq' fun K1 hK1 => ?_
  refine wp_reg ?_
  refine ol_box 3 rfl rfl rfl fun b3 => ?_
  refine ol_r (r_assign rfl) rfl ?_
  refine ol_nil (to_k0 (fun _ _ h => h) (hK1 _ _ _ _ _ ?_))
  clear hK1
  refine wp_seq' fun K2 hK2 => ?_
  refine wp_reg ?_
  refine ol_r (r_ldw rfl (fun w1 hb1 hs1 hB1 => Blk.loads (o := 0) h1 hb1 sc65 rfl)) rfl ?_
  refine ol_r (r_lda (id := 3) (n := 1) rfl rfl rfl ag63) rfl ?_
  refine ol_r (r_ldw rfl (fun w1 hb1 hs1 hB1 => Blk.loadsA (o := 0) (n := 1) h2 hb1 ag63 rfl)) rfl ?_
  refine ol_call rfl rfl cb13 rfl (fun w1 hb1 hs1 hB1 => Calls.mono (top_same _ _ _ _ _ _ xs ys _ (hx.at hb1 hB1) (hy.at hb1 hB1)) ?_)
  rintro e w2 ⟨rfl, hb2⟩
  refine After.below rfl hb1 hs1 hB1 hb2 ?_
  clear hb2 hB1 hs1 hb1 w2 w1
  refine ol_r (r_assign rfl) rfl ?_
  refine ol_nil (to_k0 (fun _ _ h => h) (hK2 _ _ _ _ _ ?_))
  clear hK2
  refine hQ.ret (rvs1 (rv_t rfl)) (fun _ _ h => h) fun w hb hs hB hkd => ?_
  exact ⟨rfl, hb⟩
theorem index_found (a : Option Addr) (n c1 : Nat) (L : List (Sl × List Int)) (y : Sl) (ys : List Int) (b1 b2 : Nat) (w : World) (hL : RdE w.heap.size w a n c1 L) (h1 : Blk w.heap.size w b1 [(0, .func (.func 13) #[] #[])]) (h2 : Blk w.heap.size w b2 [(0, .slice y.1 y.2.1 y.2.2)]) (hy : Rd encI w.heap.size w y.1 y.2.1 y.2.2 ys) (he : ys ∈ L.map (·.2)) :
    Calls Try.prog 44 #[.slice a n c1, .func (.func 19) #[] #[.pointer (some ⟨b1, 0, none⟩), .pointer (some ⟨b2, 0, none⟩)]] w fun e w' => ∃ k : Nat, e = .returned (.int .i64 (k : Int)) ∧ Below w.heap.size w w' := by
  have hn := hL.len
  have hO := hL.out
  have hf := hO.fit
  have hml : (L.map (·.1)).length = n := by rw [List.length_map]; exact hn
  refine enterQ (N := 19) (C := fun _ => True) (H := []) (B := w.heap.size) (args := [_, _]) Try.func44 rfl rfl rfl (Nat.le_refl _) (Sat.nil _ _) fun Q hQ => ?_
  refine wp_seq' fun K1 hK1 => ?_
  refine wp_reg ?_
  refine ol_r (r_assign rfl) rfl ?_
  refine ol_nil (to_k0 (fun _ _ h => h) (hK1 _ _ _ _ _ ?_))
  clear hK1
  refine wp_seq' fun K2 hK2 => ?_
  refine wp_seq' fun K3 hK3 => ?_
  refine wp_reg ?_
  refine ol_r (r_move rfl) rfl ?_
  refine ol_r (r_len rfl sl58) rfl ?_
  refine ol_r (r_move rfl) rfl ?_
  refine ol_nil (to_k0 (fun _ _ h => h) (hK3 _ _ _ _ _ ?_))
  clear hK3
  refine wp_block' ?_
  apply wp_loopM (σ := Nat) (fun s => s ≤ n ∧ ys ∉ (L.take s).map (·.2)) (fun s => [(8, .int .i64 s)]) [(0, _), (1, _), (7, _)] (fun s => []) [] (fun s => n - s) (0)
  ·try dsimp only
   exact ⟨Nat.zero_le _, by simp⟩
  ·exact (sub_cons rfl sub_nil)
  ·exact (sub_cons rfl (sub_cons rfl (sub_cons rfl sub_nil)))
  ·exact subH_nil
  ·exact subH_nil
  ·rintro k ⟨hk, hP⟩
   intro K4 hK4
   refine wp_seq' fun K5 hK5 => ?_
   refine wp_reg ?_
   refine ol_r (r_lss rfl rfl) rfl ?_
   refine ol_nil (to_k0 (fun _ _ h => h) (hK5 _ _ _ _ _ ?_))
   clear hK5
   refine wp_seq' fun K6 hK6 => ?_
   first | refine wp_condD rfl (fun hc9 => ?_) (fun hc9 => ?_) | refine wp_condN rfl (fun hc9 => ?_) (fun hc9 => ?_) | refine wp_condNB rfl (fun hc9 => ?_) (fun hc9 => ?_) | refine wp_cond' rfl (fun hc9 => ?_) (fun hc9 => ?_)
   ·refine wp_skip' (to_k0 (fun _ _ h => h) (hK6 _ _ _ _ _ ?_))
    clear hK6
    refine wp_seq' fun K7 hK7 => ?_
    refine wp_block' ?_
    refine wp_seq' fun K8 hK8 => ?_
    refine wp_reg ?_
    refine ol_r (r_move rfl) rfl ?_
    refine ol_r (r_assign rfl) rfl ?_
    refine ol_nil (to_k0 (fun _ _ h => h) (hK8 _ _ _ _ _ ?_))
    clear hK8
    refine wp_seq' fun K9 hK9 => ?_
    refine wp_reg ?_
    refine ol_r (r_move rfl) rfl ?_
    refine ol_r (r_move rfl) rfl ?_
    refine ol_r (r_move rfl) rfl ?_
    refine ol_ixr hO rfl rfl sl58 (by omega) rfl fun x14 hx14 => ?_
    try simp only [Int.toNat_natCast] at hx14
    refine ol_r (r_ldw rfl (fun w1 hb1 hs1 hB1 => Rd.loads hO ty63 hx14 hb1)) rfl ?_
    obtain ⟨z, hz, hez⟩ : ∃ z, L[k]? = some z ∧ z.1 = x14 := by
      have h9 : (L.map (·.1))[k]? = some x14 := by simpa using hx14
      rw [List.getElem?_map] at h9
      obtain ⟨y0, e1, e2⟩ := Option.map_eq_some_iff.1 h9
      exact ⟨y0, e1, e2⟩
    subst hez
    refine ol_call rfl rfl cb19 rfl (fun w1 hb1 hs1 hB1 => Calls.mono (top_found z.1 y z.2 ys b1 b2 _ (h1.at hb1 hB1) (h2.at hb1 hB1) ((hL.inn k z hz).at hb1 hB1) (hy.at hb1 hB1)) ?_)
    rintro e w2 ⟨rfl, hb2⟩
    refine After.below rfl hb1 hs1 hB1 hb2 ?_
    clear hb2 hB1 hs1 hb1 w2 w1
    refine ol_nil (to_k0 (fun _ _ h => h) (hK9 _ _ _ _ _ ?_))
    clear hK9
    first | refine wp_condD rfl (fun hc16 => ?_) (fun hc16 => ?_) | refine wp_condN rfl (fun hc16 => ?_) (fun hc16 => ?_) | refine wp_condNB rfl (fun hc16 => ?_) (fun hc16 => ?_) | refine wp_cond' rfl (fun hc16 => ?_) (fun hc16 => ?_)
    ·refine wp_seq' fun K10 hK10 => ?_
     refine wp_reg ?_
     refine ol_r (r_move rfl) rfl ?_
     refine ol_r (r_assign rfl) rfl ?_
     refine ol_nil (to_k0 (fun _ _ h => h) (hK10 _ _ _ _ _ ?_))
     clear hK10
     refine hQ.ret (rvs1 (rv_t rfl)) (fun _ _ h => h) fun w hb hs hB hkd => ?_
     exact ⟨k, rfl, hb⟩
    ·refine wp_skip' (to_k0 (fun _ _ h => h) (hK7 _ _ _ _ _ ?_))
     clear hK7
     refine wp_reg ?_
     refine ol_r (r_add rfl rfl (by omega)) rfl ?_
     refine ol_r (r_move rfl) rfl ?_
     refine ol_nil (to_k0 (fun _ _ h => h) (hK4 (k + 1) _ _ ?_ ?_ (sub_cons rfl sub_nil) (sub_cons rfl (sub_cons rfl (sub_cons rfl sub_nil))) (by exact subH_nil) subH_nil))
     ·try dsimp only
      refine ⟨by omega, fun hc => ?_⟩
      rw [take_succ_get hz, List.map_append] at hc
      rcases List.mem_append.1 hc with h | h
      · exact hP h
      · simp at h; exact hc16 h.symm
     ·try dsimp only
      omega
   ·refine wp_exit' (to_k0 (fun _ _ h => h) (hK2 _ _ _ _ _ ?_))
    clear hK2
    refine wp_seq' fun K11 hK11 => ?_
    refine wp_reg ?_
    refine ol_r (r_assign rfl) rfl ?_
    refine ol_nil (to_k0 (fun _ _ h => h) (hK11 _ _ _ _ _ ?_))
    clear hK11
    refine hQ.ret (rvs1 (rv_t rfl)) (fun _ _ h => h) fun w hb hs hB hkd => ?_
    exfalso
    rw [List.take_of_length_le (by omega)] at hP
    exact hP he
theorem contains_found (a : Option Addr) (n c1 : Nat) (L : List (Sl × List Int)) (y : Sl) (ys : List Int) (b1 b2 : Nat) (w : World) (hL : RdE w.heap.size w a n c1 L) (h1 : Blk w.heap.size w b1 [(0, .func (.func 13) #[] #[])]) (h2 : Blk w.heap.size w b2 [(0, .slice y.1 y.2.1 y.2.2)]) (hy : Rd encI w.heap.size w y.1 y.2.1 y.2.2 ys) (he : ys ∈ L.map (·.2)) :
    Calls Try.prog 18 #[.slice a n c1, .func (.func 19) #[] #[.pointer (some ⟨b1, 0, none⟩), .pointer (some ⟨b2, 0, none⟩)]] w fun e w' => e = .returned (.bool true) ∧ Below w.heap.size w w' := by
  refine enterQ (N := 9) (C := fun _ => True) (H := []) (B := w.heap.size) (args := [_, _]) Try.func18 rfl rfl rfl (Nat.le_refl _) (Sat.nil _ _) fun Q hQ => ?_
  refine wp_seq' fun K1 hK1 => ?_
  refine wp_reg ?_
  refine ol_r (r_assign rfl) rfl ?_
  refine ol_nil (to_k0 (fun _ _ h => h) (hK1 _ _ _ _ _ ?_))
  clear hK1
  refine wp_seq' fun K2 hK2 => ?_
  refine wp_reg ?_
  refine ol_r (r_move rfl) rfl ?_
  refine ol_r (r_move rfl) rfl ?_
  refine ol_call rfl rfl cb44 rfl (fun w1 hb1 hs1 hB1 => ?_)
  refine Calls.mono (index_found _ _ _ L y ys b1 b2 _ (hL.at hb1 hB1) (h1.at hb1 hB1) (h2.at hb1 hB1) (hy.at hb1 hB1) he) ?_
  rintro e w2 ⟨k, rfl, hb2⟩
  refine After.below rfl hb1 hs1 hB1 hb2 ?_
  clear hb2 hB1 hs1 hb1 w2 w1
  refine ol_r (r_geq rfl rfl) rfl ?_
  refine ol_r (r_assign rfl) rfl ?_
  refine ol_nil (to_k0 (fun _ _ h => h) (hK2 _ _ _ _ _ ?_))
  clear hK2
  refine hQ.ret (rvs1 (rv_t rfl)) (fun _ _ h => h) fun w hb hs hB hkd => ?_
  exact ⟨by rw [decide_eq_true (by omega)], hb⟩
end Go.Proofs.Ytfbmkepogcimlaa

/-
  More rules: copy into an own row, an own row made longer within its room, the append of a make, slices.overlaps.
-/




namespace Go.Proofs.Ytfbmkepogcimlaa.Hx
open Go Go.RowKit
set_option linter.unusedVariables false
set_option linter.unusedSimpArgs false
section
variable {P : Program} {N : Fr} {B : Nat} {w0 : World} {Q : Exit → Act → World → Prop} {al : AL} {H : HL} {ops rest : List Oper} {d : Nat} {ty : TypeId} {pos : String} {after : Array Edge}
theorem sliced_in {g i n cap size : Nat} (h : i < n) (hc : n ≤ cap) : sliced (some ⟨g, 0, none⟩) i n cap size = .slice (some ⟨g, i * size, none⟩) (n - i) (cap - i) := by
  unfold sliced; rw [if_neg (by omega)]; simp [Addr.add]
  try exact fun h => h.symm
theorem ol_copyO {x s : Operand} {id n cap ms m c i : Nat} {a ad : Option Addr} {xs news : List Value} {t t' e : TypeId} {size bytes : Nat} (hx : ev al x = some (sliced a i n cap size)) (hr : look H id = some (.row a n cap xs e size))
    (hs : ev al s = some (.slice ad ms c)) (hT : RowT P t e size bytes) (hl : news.length = m * size) (h1 : ∀ u ∈ news, one u = true)
    (hnews : ∀ w, Below B w0 w → Sat B w H → B ≤ w.heap.size → ∃ p, ad = some p ∧ ∀ j u, news[j]? = some u → w.cell? (p.add j) = some u)
    (hi : i + m ≤ n) (hm : 0 < m) (hmin : ms.min (n - i) = m) (hd : Nat.blt d N.n = true)
    (k : OL P N B w0 ops rest Q ((d, .int .i64 (m : Int)) :: al) ((id, .row a n cap (xs.take (i * size) ++ news ++ xs.drop (i * size + m * size)) e size) :: H)) :
    OL P N B w0 ops ({ dst := some d, op := .call { callee := .builtin .copy, args := #[x, s], argTypes := #[t, t'] }, type := ty, pos, after, guard := none } :: rest) Q al H := by
  obtain ⟨hu, i0, z, hi0, hz, hsz, hby, hzz, hpos⟩ := hT
  intro a0 w hst
  refine wpList_plain rfl fun K hK => ?_
  obtain ⟨p, rfl, hp⟩ := hnews w hst.below hst.sat hst.base
  obtain ⟨h1', h2⟩ := (hst.sat.ok _ _ hr : w.ownsRow B e size (.slice a n cap) n xs)
  rcases h2 with ⟨hv, hn⟩ | ⟨g, cap', cur, hv, hb, hg, hnc, hcm, hcs, htake⟩
  · omega
  cases hv
  have hlt := (Array.getElem?_eq_some_iff.1 hg).1
  rw [sliced_in (by omega) hnc] at hx
  have b1 : i * size + m * size ≤ n * size := by rw [← Nat.add_mul]; exact Nat.mul_le_mul_right _ hi
  have hcapm : n * size ≤ cap * size := Nat.mul_le_mul_right _ hnc
  obtain ⟨cur', r1, r2, r3⟩ := run_storeCells (P := P) g e news (i * size) 0 cur w hg (by omega) h1
  have hfc : (Builtin.firstCells size m (.slice (some p) ms c)).run P w = .ok news.toArray w := run_firstCells_some w size m p ms c news hl hp
  have hrun : (execOp a0.eval { dst := some d, op := .call { callee := .builtin .copy, args := #[x, s], argTypes := #[t, t'] }, type := ty, pos, after, guard := none }).run P w = .ok (.value (.int .i64 (m : Int))) { w with heap := w.heap.setIfInBounds g (.cells cur' e (0, 0)) } := by
    simp [BigFrame.execOp_builtin, BigFrame.builtin_copy, hst.regs.eval hx, hst.regs.eval hs, Builtin.copy_, run_underlying hu, Builtin.lenOf, sizeOf, typeInfo, hi0, hsz, hmin, hfc, r1, goInt]
  unfold Oper.wp
  rw [hrun, Oper.upon_value]
  refine hK _ _ (k _ _ (hst.step (hst.regs.put (by simpa using hd) _) (Below.setBlk hst.below hb _) ?_ (by simpa using hst.base) (Kd.one g (fun k _ hk => setBlk_other w g k _ hk) (fun o ho => .inl (by rw [hg] at ho; cases ho; rfl)))))
  refine hst.sat.turn hr (e' := .row (some ⟨g, 0, none⟩) n cap (xs.take (i * size) ++ news ++ xs.drop (i * size + m * size)) e size) ?_ (fun k _ hk => setBlk_other w g k _ (fun e => hk (by simp [Ent.own, e]))) (fun b' hb' => .inl hb')
  refine ⟨by rw [List.length_append, List.length_append, List.length_take, List.length_drop]; omega, .inr ⟨g, cap, cur', rfl, hb, by simp [hlt], hnc, hcm, by rw [r2, hcs], ?_⟩⟩
  apply List.ext_getElem?
  intro j
  have hxj : j < n * size → xs[j]? = cur[j]? := fun hj => by rw [← htake, List.getElem?_take, if_pos hj, Array.getElem?_toList]
  have hlt' : (xs.take (i * size)).length = i * size := by rw [List.length_take]; omega
  rw [List.getElem?_take]
  by_cases hj : j < n * size
  · rw [if_pos hj, Array.getElem?_toList, r3 j, List.append_assoc]
    by_cases c1 : j < i * size
    · rw [if_neg (by omega), List.getElem?_append_left (by omega), List.getElem?_take, if_pos c1, hxj hj]
    · rw [List.getElem?_append_right (by omega), hlt']
      by_cases c2 : j < i * size + m * size
      · rw [if_pos (by omega), List.getElem?_append_left (by omega)]; rfl
      · rw [if_neg (by omega), List.getElem?_append_right (by omega), List.getElem?_drop, ← hxj hj]
        congr 1; omega
  · rw [if_neg hj, List.getElem?_eq_none]
    rw [List.length_append, List.length_append, hlt', List.length_drop]; omega
theorem ol_longO {s hi : Operand} {id n cap : Nat} {h : Int} {a : Option Addr} {xs : List Value} {t e : TypeId} {size : Nat} (hs : ev al s = some (.slice a n cap)) (hr : look H id = some (.row a n cap xs e size)) (hhi : evo al (some hi) = some (some h)) (hT : Slc P t size)
    (h0 : (n : Int) ≤ h ∧ h ≤ cap) (hn : 0 < n) (hd : Nat.blt d N.n = true)
    (k : ∀ us : List Value, us.length = (h.toNat - n) * size → OL P N B w0 ops rest Q ((d, .slice a h.toNat cap) :: al) ((id, .row a h.toNat cap (xs ++ us) e size) :: H)) :
    OL P N B w0 ops ({ dst := some d, op := .slice t s none (some hi) none, type := ty, pos, after, guard := none } :: rest) Q al H := by
  have hr1 := r_sl (P := P) (N := N) (B := B) (w0 := w0) (H := H) (ty := ty) hs (lo := none) (l := none) (hi := some hi) rfl hhi hT (by simp; omega) (by omega)
  refine ol_r hr1 hd ?_
  have e1 : sliced a ((none : Option Int).getD 0).toNat ((some h).getD (n : Int)).toNat cap size = .slice a h.toNat cap := sliced_zero _ _ _ _
  rw [e1]
  intro a1 w hst
  obtain ⟨h1', h2⟩ := (hst.sat.ok _ _ hr : w.ownsRow B e size (.slice a n cap) n xs)
  rcases h2 with ⟨hv, hn'⟩ | ⟨g, cap', cur, hv, hb, hg, hnc, hcm, hcs, htake⟩
  · omega
  cases hv
  have hm : n * size ≤ h.toNat * size := Nat.mul_le_mul_right _ (by omega)
  have hm2 : h.toNat * size ≤ cap * size := Nat.mul_le_mul_right _ (by omega)
  have e2 : (h.toNat - n) * size = h.toNat * size - n * size := Nat.sub_mul ..
  have hcl : cur.toList.length = cap * size := by rw [Array.length_toList, hcs]
  refine k ((cur.toList.drop (n * size)).take (h.toNat * size - n * size)) (by rw [List.length_take, List.length_drop, e2]; omega) a1 w (hst.step hst.regs hst.below ?_ hst.base (Kd.refl _ _))
  refine hst.sat.turn hr (e' := .row (some ⟨g, 0, none⟩) h.toNat cap _ e size) ?_ (fun _ _ _ => rfl) (fun b' hb' => .inl hb')
  refine ⟨by rw [List.length_append, List.length_take, List.length_drop]; omega, .inr ⟨g, cap, cur, rfl, hb, hg, by omega, hcm, hcs, ?_⟩⟩
  rw [← htake]
  have : h.toNat * size = n * size + (h.toNat * size - n * size) := by omega
  rw [this, List.take_add]
  congr 2; omega
theorem ol_cutR {s hi : Operand} {n cap : Nat} {h : Int} {a : Option Addr} {t : TypeId} {size : Nat} (hs : ev al s = some (.slice a n cap)) (hhi : evo al (some hi) = some (some h)) (hT : Slc P t size) (h0 : 0 ≤ h ∧ h ≤ n) (hc : n ≤ cap) (hd : Nat.blt d N.n = true)
    (k : OL P N B w0 ops rest Q ((d, .slice a h.toNat cap) :: al) H) :
    OL P N B w0 ops ({ dst := some d, op := .slice t s none (some hi) none, type := ty, pos, after, guard := none } :: rest) Q al H := by
  have hr1 := r_sl (P := P) (N := N) (B := B) (w0 := w0) (H := H) (ty := ty) hs (lo := none) (l := none) (hi := some hi) rfl hhi hT (by simp; omega) hc
  refine ol_r hr1 hd ?_
  have e1 : sliced a ((none : Option Int).getD 0).toNat ((some h).getD (n : Int)).toNat cap size = .slice a h.toNat cap := sliced_zero _ _ _ _
  rw [e1]
  exact k
/-- A row of H read from its k-th element on. -/
theorem tail_src {w : World} {id n cap i size : Nat} {a : Option Addr} {xs : List Value} {e : TypeId} (hs : Sat B w H) (hr : look H id = some (.row a n cap xs e size)) (hi : i < n) : ∃ g, sliced a i n cap size = .slice (some ⟨g, i * size, none⟩) (n - i) (cap - i) ∧ a = some ⟨g, 0, none⟩ ∧ ∀ j u, (xs.drop (i * size))[j]? = some u → w.cell? ((⟨g, i * size, none⟩ : Addr).add j) = some u := by
  obtain ⟨h1', h2⟩ := (hs.ok _ _ hr : w.ownsRow B e size (.slice a n cap) n xs)
  rcases h2 with ⟨hv, hn⟩ | ⟨g, cap', cur, hv, hb, hg, hnc, hcm, hcs, htake⟩
  · omega
  cases hv
  refine ⟨g, sliced_in hi hnc, rfl, fun j u hj => ?_⟩
  rw [List.getElem?_drop, ← htake, List.getElem?_take] at hj
  split at hj
  · rw [add_none, World.cell?, hg]
    simpa using hj
  · cases hj
theorem Enc.enc_drop {α : Type} (E : Enc α) (xs : List α) (i : Nat) (h : i ≤ xs.length) : (E.enc xs).drop (i * E.size) = E.enc (xs.drop i) := by
  have h1 : E.enc xs = E.enc (xs.take i) ++ E.enc (xs.drop i) := by rw [← Enc.enc_append, List.take_append_drop]
  rw [h1]
  exact List.drop_left' (by rw [E.enc_len, List.length_take, Nat.min_eq_left h])
theorem Enc.enc_take' {α : Type} (E : Enc α) (xs : List α) (i : Nat) (h : i ≤ xs.length) : (E.enc xs).take (i * E.size) = E.enc (xs.take i) := by
  have h1 : E.enc xs = E.enc (xs.take i) ++ E.enc (xs.drop i) := by rw [← Enc.enc_append, List.take_append_drop]
  rw [h1]
  exact List.take_left' (by rw [E.enc_len, List.length_take, Nat.min_eq_left h])
theorem copy_typed {α : Type} (E : Enc α) {xs ys : List α} {i : Nat} (h : i + ys.length ≤ xs.length) : (E.enc xs).take (i * E.size) ++ E.enc ys ++ (E.enc xs).drop (i * E.size + ys.length * E.size) = E.enc (xs.take i ++ ys ++ xs.drop (i + ys.length)) := by
  rw [← Nat.add_mul, E.enc_take' xs i (by omega), E.enc_drop xs _ h, Enc.enc_append, Enc.enc_append]
theorem shift_typed {α : Type} (E : Enc α) {xs : List α} {us : List Value} {i : Nat} (h : i < xs.length) (hu : us.length = E.size) : (E.enc xs ++ us).take ((i + 1) * E.size) ++ E.enc (xs.drop i) ++ (E.enc xs ++ us).drop ((i + 1) * E.size + (xs.length - i) * E.size) = E.enc (xs.take (i + 1) ++ xs.drop i) := by
  have hl := E.enc_len xs
  have hm : (i + 1) * E.size ≤ xs.length * E.size := Nat.mul_le_mul_right _ h
  have hd : (E.enc xs ++ us).drop ((i + 1) * E.size + (xs.length - i) * E.size) = [] := by
    rw [List.drop_eq_nil_of_le]
    rw [List.length_append, hl, hu, ← Nat.add_mul, show i + 1 + (xs.length - i) = xs.length + 1 by omega, Nat.add_mul, Nat.one_mul]
    exact Nat.le_refl _
  rw [hd, List.append_nil, List.take_append_of_le_length (by omega), E.enc_take' xs _ h, Enc.enc_append]
theorem tail_rd {w : World} {α : Type} {E : Enc α} {n cap i : Nat} {a : Option Addr} {xs : List α} (hl : Rd E B w a n cap xs) (hi : i < n) : ∃ p, sliced a i n cap E.size = .slice (some p) (n - i) (cap - i) ∧ ∀ w', Below B w w' → ∀ j u, (E.enc (xs.drop i))[j]? = some u → w'.cell? (p.add j) = some u := by
  have hlen := hl.len
  have hr := hl.room
  obtain ⟨b, off, rfl, hb, _⟩ := hl.cell i (xs[i]'(by omega)) (List.getElem?_eq_getElem _)
  refine ⟨(⟨b, off, none⟩ : Addr).add (i * E.size), ?_, fun w' hw j u hj => ?_⟩
  · unfold sliced; rw [if_neg (by omega)]; rfl
  · have h1 := (hl.below hw).flat rfl (i * E.size + j) u (by rw [← E.enc_drop xs i (by omega), List.getElem?_drop] at hj; exact hj)
    rw [add_none] at h1
    rw [add_none, add_none, Nat.add_assoc]; exact h1
theorem r_slT {s lo : Operand} {i n cap : Nat} {a : Option Addr} {t : TypeId} {size : Nat} {v : Value} (hp : sliced a i n cap size = v) (hs : ev al s = some (.slice a n cap)) (hlo : evo al (some lo) = some (some (i : Int))) (hT : Slc P t size) (h0 : i ≤ n ∧ n ≤ cap) :
    Runs P N B w0 (.slice t s (some lo) none none) ty al H v := by
  have h := r_sl (P := P) (N := N) (B := B) (w0 := w0) (H := H) (ty := ty) hs hlo (hi := none) (h := none) rfl hT (by simp; omega) h0.2
  rw [← hp]
  exact h
theorem row_eq {id n cap size : Nat} {a : Option Addr} {α : Type} {E : Enc α} {xs : List Value} {zs : List α} {e : TypeId} {l : List Oper} (h : xs = E.enc zs) (k : OL P N B w0 ops l Q al ((id, .row a n cap (E.enc zs) e size) :: H)) : OL P N B w0 ops l Q al ((id, .row a n cap xs e size) :: H) := by subst h; exact k
theorem zero_enc {α : Type} (E : Enc α) (x0 : α) {z : Value} (hz : z.cells = (E.cells x0).toArray) (m : Nat) : (Builtin.zeroCells z.cells m).toList = E.enc (List.replicate m x0) := by
  have hlen := E.len x0
  have := cells_rep (E.cells x0) (by rw [hlen]; exact E.pos) m
  rw [hlen] at this
  unfold Builtin.zeroCells Enc.enc
  rw [hz]
  simpa [hlen, List.flatMap, List.map_replicate] using this
theorem ol_appendZR {α : Type} (E : Enc α) (x0 : α) (id : Nat) {s kop : Operand} {i n cap N' : Nat} {kk : Int} {a : Option Addr} {xs : List α} {t tn e : TypeId} {size bytes : Nat} {us : List Value} (hs : ev al s = some (.slice a i cap)) (hk : ev al kop = some (.int .i64 kk)) (hl : Rd E B w0 a n cap xs) (hi : 0 < i ∧ i ≤ n)
    (hT : RowT P t e size bytes) (htn : P.underlying tn = some (.int .i64)) (hz : ZeroOf P e us) (hE : us = E.cells x0) (hsz : size = E.size) (hN : (i : Int) + kk = N') (hg : 0 < kk ∧ cap < N') (hb : N' * bytes ≤ 140737488355328 ∧ N' ≤ 9223372036854775807) (hd : Nat.blt d N.n = true)
    (k : ∀ a' cap', N' ≤ cap' ∧ cap' ≤ 9223372036854775807 → OL P N B w0 ops rest Q ((d, .slice a' N' cap') :: al) ((id, .row a' N' cap' (E.enc (xs.take i ++ List.replicate kk.toNat x0)) e size) :: H)) :
    OL P N B w0 ops ({ dst := some d, op := .call { callee := .builtin .append, args := #[s, kop], argTypes := #[t, tn] }, type := ty, pos, after, guard := none } :: rest) Q al H := by
  obtain ⟨hu, i0, z, hi0, hz0, hsz0, hby, hzz, hpos⟩ := hT
  obtain ⟨z', hz', hcells⟩ := hz
  rw [hi0] at hz'
  have hzz' : some z = some z' := by rw [← hz0]; exact hz'
  cases hzz'
  subst hE
  subst hsz
  obtain ⟨m, rfl⟩ := Int.eq_ofNat_of_zero_le (show 0 ≤ kk by omega)
  obtain rfl : N' = i + m := by omega
  rw [Int.toNat_natCast] at k
  intro a0 w hst
  refine wpList_plain rfl fun K hK => ?_
  obtain ⟨p, rfl⟩ : ∃ p, a = some p := by have := hl.isSome (by omega); cases a with | none => simp at this | some p => exact ⟨p, rfl⟩
  have hlen := hl.len
  have hfl := (hl.below hst.below).flat rfl
  have hen : E.enc (xs.take i) = (E.enc xs).take (i * E.size) := by
    have h1 : E.enc xs = E.enc (xs.take i) ++ E.enc (xs.drop i) := by rw [← Enc.enc_append, List.take_append_drop]
    rw [h1]; exact (List.take_left' (by rw [E.enc_len, List.length_take]; congr 1; omega)).symm
  have hil : (E.enc (xs.take i)).length = i * E.size := by rw [E.enc_len, List.length_take]; congr 1; omega
  have hfc : (Builtin.firstCells i0.size i (.slice (some p) i cap)).run P w.drew = .ok (E.enc (xs.take i)).toArray w.drew := by
    rw [hsz0]
    refine run_firstCells_some w.drew E.size i p i cap _ hil fun j v hj => ?_
    rw [hen, List.getElem?_take] at hj
    split at hj
    · exact hfl j v hj
    · cases hj
  have hb1 : i * bytes ≤ (i + m) * bytes := Nat.mul_le_mul_right _ (by omega)
  have hb2 : m * bytes ≤ (i + m) * bytes := Nat.mul_le_mul_right _ (by omega)
  have hrun0 := Lib.run_append_grow_zeros (P := P) w t tn ty e i0 z .i64 .i64 hu htn hi0 hz0 (some p) i cap (E.enc (xs.take i)) hfc m (by omega) (by rw [hsz0]; exact hpos) (by omega) (by omega) (by rw [hby]; omega) (by rw [hby]; exact growslice_fits (by omega) hb.1)
  have hrun : (execOp a0.eval { dst := some d, op := .call { callee := .builtin .append, args := #[s, kop], argTypes := #[t, tn] }, type := ty, pos, after, guard := none }).run P w = .ok (.value (.slice (some ⟨w.heap.size, 0, none⟩) (i + m) (grownCap w (i + m) cap e)))
      (w.drew.alloc (.cells ((E.enc (xs.take i)).toArray ++ Builtin.zeroCells z.cells m ++ Builtin.zeroCells z.cells (grownCap w (i + m) cap e - (i + m))) e)) := by
    have hk' : a0.eval kop = .int .i64 (m : Int) := hst.regs.eval hk
    simp [BigFrame.execOp_builtin, BigFrame.builtin_append, hst.regs.eval hs, hk', hrun0]
  unfold Oper.wp
  rw [hrun, Oper.upon_value]
  have hge := grownCap_ge w (i + m) cap e
  have hle := grownCap_le_maxLen w (i + m) cap e (by unfold maxLen; omega)
  refine hK _ _ (k _ _ ⟨hge, hle⟩ _ _ (hst.step (hst.regs.put (by simpa using hd) _) (hst.below.drew.alloc hst.base _) ?_ (by have := hst.base; simp; omega) (fun k o' hk _ _ => (Below.heap_alloc w.drew _ k (Array.getElem?_eq_some_iff.1 hk).1).trans hk)))
  refine hst.sat.new id (e := .row (some ⟨w.heap.size, 0, none⟩) (i + m) (grownCap w (i + m) cap e) (E.enc (xs.take i ++ List.replicate m x0)) e E.size) ?_ (fun k hk => Below.heap_alloc w.drew _ k hk) (fun b hb => by simp [Ent.own] at hb; omega)
  refine ⟨by rw [E.enc_len, List.length_append, List.length_take, List.length_replicate]; congr 1; omega, .inr ⟨w.heap.size, grownCap w (i + m) cap e, _, rfl, hst.base, heap_alloc_new w.drew _, hge, hle, ?_, ?_⟩⟩
  · have hzl : ∀ q, (Builtin.zeroCells z.cells q).size = q * E.size := fun q => by rw [size_zeroCells, hzz]
    simp only [Array.size_append, List.size_toArray, hzl, hil]
    rw [← Nat.add_mul, ← Nat.add_mul]; congr 1; omega
  · rw [Array.toList_append, Array.toList_append, zero_enc E x0 hcells, ← Enc.enc_append]
    exact List.take_left' (by rw [E.enc_len, List.length_append, List.length_take, List.length_replicate]; congr 1; omega)
theorem r_ov {f x y : Operand} {g : FuncId} {fn : Func} {tys : Array TypeId} {tS tR e : TypeId} {ad a : Option Addr} {m c n cap i id id2 size bytes : Nat} {xs ys : List Value} (hf : ev al f = some (.func (.func g) #[] #[])) (hx : ev al x = some (.slice ad m c)) (hr2 : look H id2 = some (.row ad m c ys e size)) (hy : ev al y = some (sliced a i n cap size)) (hr : look H id = some (.row a n cap xs e size)) (hne : id ≠ id2) (hi : i < n) (hm : 0 < m)
    (hT : RowT P tS e size bytes) (hfn : P.funcs[g]? = some fn) (hname : (fn.name == "runtime.NumGoroutine") = false) (hb : fn.body.isNone = true) (hn : Extern.findNext fn = none) (he : Extern.find fn = some (Extern.SlicesOverlaps.overlaps #[tS, tS] #[tR])) :
    Runs P N B w0 (.call { callee := .value f, args := #[x, y], argTypes := tys }) ty al H (.bool false) := fun a0 w hst => by
  obtain ⟨hu, i0, z, hi0, hz, hsz, hby, hzz, hpos⟩ := hT
  have ok1 : w.ownsRow B e size (.slice a n cap) n xs := hst.sat.ok _ _ hr
  have ok2 : w.ownsRow B e size (.slice ad m c) m ys := hst.sat.ok _ _ hr2
  obtain ⟨_, h2⟩ := ok1
  obtain ⟨_, h3⟩ := ok2
  rcases h2 with ⟨hv, hn'⟩ | ⟨b1, cap', cur, hv, hb1, hg1, hnc, hcm, hcs, htake⟩
  · omega
  rcases h3 with ⟨hv', hn'⟩ | ⟨b2, cap2, cur2, hv', hb2, hg2, hnc2, hcm2, hcs2, htake2⟩
  · omega
  cases hv
  cases hv'
  rw [sliced_in hi hnc] at hy
  have hbb : b2 ≠ b1 := fun h => hst.sat.apart id2 id _ _ (Ne.symm hne) hr2 hr b2 rfl (by rw [h]; rfl)
  have hz1 : ∀ w, (Go.sizeOf e).run P w = .ok size w := fun w => by simp [sizeOf, typeInfo, hi0, hsz]
  have hcpos : cur.size ≠ 0 := by rw [hcs]; exact Nat.mul_ne_zero (by omega) (by omega)
  have h1 := Lib.run_overlaps_apart (P := P) w tS tR e hu size hz1 ⟨b2, 0, none⟩ ⟨b1, i * size, none⟩ m c (n - i) (cap - i) hbb e e cur2.size cur.size (by simp [World.shape?, hg2]) (by simp [World.shape?, hg1]) hcpos (by simp [World.frozen?, hg2]) (by simp [World.frozen?, hg2])
  have h2 : (callFunc g #[.slice (some ⟨b2, 0, none⟩) m c, .slice (some ⟨b1, i * size, none⟩) (n - i) (cap - i)]).run P w = .ok (.value (.bool false)) w := by
    rw [run_callFunc_extern hfn hname hb hn he, h1]; rfl
  simp [execOp, resolve, hst.regs.eval hf, hst.regs.eval hx, hst.regs.eval hy, Deferred.ofValue, invoke, h2]
end
end Go.Proofs.Ytfbmkepogcimlaa.Hx
