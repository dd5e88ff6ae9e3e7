/-
  More rules: append of a make, and an owned row cut to its beginning.
-/
import Derived.Test.YtogcclagmobkiaaHx3
import Derived.Lib.AppendZeros
namespace Go.Proofs.Ytogcclagmobkiaa.Hx
open Go Go.RowKit
set_option linter.unusedVariables false
set_option linter.unusedSimpArgs false
section
variable {P : Program} {N : Fr} {B : Nat} {w0 : World} {Q : Exit → Act → World → Prop} {al : AL} {H : HL} {ops rest : List Oper} {d : Nat} {ty : TypeId} {pos : String} {after : Array Edge}
/-- append(nil, make([]T, n)...): n elements, and what they are is not told. -/
theorem ol_appendZ {s x : Operand} {t tn e : TypeId} {size bytes : Nat} {n : Int} (id : Nat) (hs : ev al s = some (.slice none 0 0)) (hx : ev al x = some (.int .i64 n)) (hT : RowT P t e size bytes) (htn : P.underlying tn = some (.int .i64))
    (h0 : 0 < n) (hb : n ≤ 9223372036854775807 ∧ n * bytes ≤ 140737488355328) (hd : Nat.blt d N.n = true)
    (k : ∀ a' cap' zs, n.toNat ≤ cap' → OL P N B w0 ops rest Q ((d, .slice a' n.toNat cap') :: al) ((id, .row a' n.toNat cap' zs e size) :: H)) :
    OL P N B w0 ops ({ dst := some d, op := .call { callee := .builtin .append, args := #[s, x], argTypes := #[t, tn] }, type := ty, pos, after, guard := none } :: rest) Q al H := by
  intro a0 w hst
  refine wpList_plain rfl fun K hK => ?_
  obtain ⟨hu, i, z, hi, hz, hsz, hby, hzs, hpos⟩ := hT
  obtain ⟨m, rfl⟩ : ∃ m : Nat, n = m := ⟨n.toNat, by omega⟩
  have hr := Lib.run_append_nil_zeros (P := P) w t tn ty e i z .i64 .i64 hu htn hi hz m (by omega) (by omega) (by omega) (by rw [hby]; have := hb.2; rw [← Int.natCast_mul] at this; omega)
  have hrun : (execOp a0.eval { dst := some d, op := .call { callee := .builtin .append, args := #[s, x], argTypes := #[t, tn] }, type := ty, pos, after, guard := none }).run P w = .ok (.value (.slice (some ⟨w.heap.size, 0, none⟩) m (grownCap w m 0 e))) (w.drew.alloc (.cells (Builtin.zeroCells z.cells m ++ Builtin.zeroCells z.cells (grownCap w m 0 e - m)) e)) := by
    simp [BigFrame.execOp_builtin, BigFrame.builtin_append, hst.regs.eval hs, hst.regs.eval hx, hr]
  unfold Oper.wp
  rw [hrun, Oper.upon_value]
  have hge := grownCap_ge w m 0 e
  have hcm : grownCap w m 0 e ≤ maxLen := grownCap_le_maxLen w m 0 e (by unfold maxLen; omega)
  refine hK _ _ (k (some ⟨w.heap.size, 0, none⟩) (grownCap w m 0 e) (Builtin.zeroCells z.cells m).toList (by simpa using hge) _ _ (hst.step (hst.regs.put (by simpa using hd) _) (hst.below.drew.alloc hst.base _) ?_ (by have := hst.base; simp; omega) (Kd.trans (w1 := w.drew) (fun k o h _ _ => h) (Kd.alloc w.drew _))))
  refine hst.sat.new id (e := .row (some ⟨w.heap.size, 0, none⟩) m (grownCap w m 0 e) (Builtin.zeroCells z.cells m).toList e size) ?_ (fun k hk => Below.heap_alloc w.drew _ k hk) (fun b hb => by simp [Ent.own] at hb; omega)
  refine ⟨by rw [Array.length_toList, size_zeroCells, hzs], .inr ⟨w.heap.size, _, _, rfl, hst.base, heap_alloc_new w.drew _, hge, hcm, ?_, ?_⟩⟩
  · simp only [Array.size_append, size_zeroCells, hzs, ← Nat.add_mul]
    congr 1
    omega
  · rw [Array.toList_append, show m * size = (Builtin.zeroCells z.cells m).toList.length by rw [Array.length_toList, size_zeroCells, hzs]]
    exact List.take_left
theorem sliced_zero (a : Option Addr) (h cap size : Nat) : sliced a 0 h cap size = .slice a h cap := by
  unfold sliced
  cases a with
  | none => simp
  | some p => simp [add_none, Addr.add]
/-- An owned row's first elements. -/
theorem Sat.cut {w : World} {id n cap h : Nat} {a : Option Addr} {xs : List Value} {e : TypeId} {size : Nat} (hs : Sat B w H) (hr : look H id = some (.row a n cap xs e size)) (hh : h ≤ n) : Sat B w ((id, .row a h cap (xs.take (h * size)) e size) :: H) := by
  refine hs.turn hr ?_ (fun _ _ _ => rfl) (fun b hb => .inl hb)
  obtain ⟨h1, h2⟩ := hs.ok _ _ hr
  refine ⟨by rw [List.length_take, h1]; exact Nat.min_eq_left (Nat.mul_le_mul_right _ hh), ?_⟩
  rcases h2 with ⟨hv, h2⟩ | ⟨g, cap', cur, hv, hb, hg, hnc, hcm, hcs, htake⟩
  · cases hv
    obtain rfl : h = 0 := by omega
    exact .inl ⟨rfl, rfl⟩
  · cases hv
    exact .inr ⟨g, cap, cur, rfl, hb, hg, by omega, hcm, hcs, by rw [← htake, List.take_take, Nat.min_eq_left (Nat.mul_le_mul_right _ hh)]⟩
theorem r_capn {s : Operand} {t : TypeId} {p : Option Addr} {n cap size : Nat} (hs : ev al s = some (.slice p n cap)) (hT : Slc P t size) :
    Runs P N B w0 (.call { callee := .builtin .cap, args := #[s], argTypes := #[t] }) ty al H (.int .i64 cap) := fun a w hst => by
  obtain ⟨e, hu, hz⟩ := hT
  simp [BigFrame.execOp_builtin, BigFrame.builtin_cap, hst.regs.eval hs, Builtin.cap_, run_underlying hu, goInt]
theorem r_min3 {x y z : Operand} {tys : Array TypeId} {m n l : Int} (hx : ev al x = some (.int .i64 m)) (hy : ev al y = some (.int .i64 n)) (hz : ev al z = some (.int .i64 l)) :
    Runs P N B w0 (.call { callee := .builtin .min, args := #[x, y, z], argTypes := tys }) ty al H (.int .i64 (min (min m n) l)) := fun a w hst => by
  have h1 : (if n < m then n else m) = min m n := by rw [Int.min_def]; split <;> split <;> omega
  have h2 : (if l < min m n then l else min m n) = min (min m n) l := by rw [Int.min_def (min m n)]; split <;> split <;> omega
  simp [BigFrame.execOp_builtin, BigFrame.builtin_min, hst.regs.eval hx, hst.regs.eval hy, hst.regs.eval hz, Builtin.min_, Builtin.min2, h1, h2]
theorem ol_cutO {s : Operand} {hi : Operand} {id n cap : Nat} {h : Int} {a : Option Addr} {xs : List Value} {t e : TypeId} {size : Nat} (hs : ev al s = some (.slice a n cap)) (hr : look H id = some (.row a n cap xs e size)) (hhi : evo al (some hi) = some (some h)) (hT : Slc P t size)
    (h0 : 0 ≤ h ∧ h ≤ n) (hc : n ≤ cap) (hd : Nat.blt d N.n = true)
    (k : OL P N B w0 ops rest Q ((d, .slice a h.toNat cap) :: al) ((id, .row a h.toNat cap (xs.take (h.toNat * size)) e size) :: H)) :
    OL P N B w0 ops ({ dst := some d, op := .slice t s none (some hi) none, type := ty, pos, after, guard := none } :: rest) Q al H := by
  have hr1 := r_sl (P := P) (N := N) (B := B) (w0 := w0) (H := H) (ty := ty) hs (lo := none) (l := none) (hi := some hi) rfl hhi hT (by simp; omega) hc
  refine ol_r hr1 hd ?_
  have e1 : sliced a ((none : Option Int).getD 0).toNat ((some h).getD (n : Int)).toNat cap size = .slice a h.toNat cap := sliced_zero _ _ _ _
  rw [e1]
  exact fun a1 w hst => k a1 w (hst.step hst.regs hst.below (hst.sat.cut hr (by omega)) hst.base (Kd.refl _ _))
def Kle (H : HL) (ks : List (Nat × Nat)) (H' : HL) : Prop := ∀ j e, look H' j = some e → ∃ i f, (i, j) ∈ ks ∧ look H i = some f ∧ e.le f
theorem kle_nil {H : HL} : Kle H [] [] := fun j e h => by simp [look] at h
theorem kle_cons {H H' : HL} {i k : Nat} {e f : Ent} {ks : List (Nat × Nat)} (h : look H i = some f) (hl : e.le f) (hk : Kle H ks H') : Kle H ((i, k) :: ks) ((k, e) :: H') := fun j g hj => by
  by_cases hkj : k = j
  · subst hkj; rw [look_cons_eq] at hj; cases hj; exact ⟨i, f, by simp, h, hl⟩
  · rw [look_cons_ne _ _ hkj] at hj
    obtain ⟨i', f', h1, h2, h3⟩ := hk j g hj
    exact ⟨i', f', by simp [h1], h2, h3⟩
theorem Sat.kle {B : Nat} {H H' : HL} {w : World} (h : Sat B w H) (ks : List (Nat × Nat)) (hk : Kle H ks H') (hd : ∀ p ∈ ks, ∀ q ∈ ks, p.1 = q.1 → p.2 = q.2) : Sat B w H' :=
  ⟨fun j e he => by obtain ⟨i, f, _, h2, h3⟩ := hk j e he; exact h3.ok (h.ok i f h2), fun j j' e f hj he hf b hb => by
    obtain ⟨i, g, a1, a2, a3⟩ := hk j e he
    obtain ⟨i', g', b1, b2, b3⟩ := hk j' f hf
    exact fun hb' => h.apart i i' g g' (fun hii => hj (hd _ a1 _ b1 hii)) a2 b2 b (a3.own hb) (b3.own hb')⟩
theorem row_le {a : Option Addr} {n c s : Nat} {xs ys : List Value} {e : TypeId} (h : xs = ys) : (Ent.row a n c xs e s).le (.row a n c ys e s) := by subst h; exact Ent.le_refl _
end
end Go.Proofs.Ytogcclagmobkiaa.Hx
