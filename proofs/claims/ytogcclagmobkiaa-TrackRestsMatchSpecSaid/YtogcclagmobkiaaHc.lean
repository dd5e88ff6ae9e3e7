/-
  More rules: the end of an owned row set to zero.
-/
import Derived.Test.YtogcclagmobkiaaHg
import Derived.Test.YtogcclagmobkiaaHa
namespace Go.Proofs.Ytogcclagmobkiaa.Hx
open Go Go.RowKit
set_option linter.unusedVariables false
set_option linter.unusedSimpArgs false
section
variable {P : Program} {N : Fr} {B : Nat} {w0 : World} {Q : Exit → Act → World → Prop} {al : AL} {H : HL} {ops rest : List Oper} {d : Nat} {ty : TypeId} {pos : String} {after : Array Edge}
theorem Enc.enc_take {α : Type} (E : Enc α) (xs : List α) (i : Nat) (h : i ≤ xs.length) : (E.enc xs).take (i * E.size) = E.enc (xs.take i) := by
  have h1 : E.enc xs = E.enc (xs.take i) ++ E.enc (xs.drop i) := by rw [← Enc.enc_append, List.take_append_drop]
  rw [h1]
  exact List.take_left' (by rw [E.enc_len, List.length_take, Nat.min_eq_left h])
theorem mem_zeroCells {us : Array Value} {n : Nat} (hn : 0 < us.size) {v : Value} (h : v ∈ (Builtin.zeroCells us n).toList) : v ∈ us.toList := by
  unfold Builtin.zeroCells at h
  simp only [Array.toList_map, List.mem_map] at h
  obtain ⟨i, _, rfl⟩ := h
  have hlt : i % us.size < us.size := Nat.mod_lt _ hn
  simp [hlt]
theorem ol_clearO {α : Type} (E : Enc α) {s : Operand} {id n cap i : Nat} {a : Option Addr} {xs : List α} {t e : TypeId} {size : Nat} {z : Value}
    (hs : ev al s = some (sliced a i n cap size)) (hr : look H id = some (.row a n cap (E.enc xs) e size)) (hz : size = E.size) (hu : P.underlying t = some (.slice e)) (hzr : ∀ w, (zeroValue e).run P w = .ok z w) (hul : z.cells.size = size) (h1 : z.cells.toList.all one = true) (hi : i ≤ n)
    (k : ∀ vs, vs.take (i * size) = E.enc (xs.take i) → OL P N B w0 ops rest Q al ((id, .row a n cap vs e size) :: H)) :
    OL P N B w0 ops ({ dst := none, op := .call { callee := .builtin .clear, args := #[s], argTypes := #[t] }, type := ty, pos, after, guard := none } :: rest) Q al H := by
  subst hz
  intro a0 w hst
  refine wpList_plain rfl fun K hK => ?_
  have hok : w.ownsRow B e E.size (.slice a n cap) n (E.enc xs) := hst.sat.ok _ _ hr
  have hlen : xs.length = n := (hst.sat.rd hr rfl).len
  have hcap : n ≤ cap := by
    rcases hok.2 with ⟨h3, h4⟩ | ⟨g, cap', cur, hv, hb, hg, hnc, hcm, hcs, htake⟩
    · omega
    · cases hv; exact hnc
  by_cases hin : i = n
  · subst hin
    have hrun : (execOp a0.eval { dst := none, op := .call { callee := .builtin .clear, args := #[s], argTypes := #[t] }, type := ty, pos, after, guard := none }).run P w = .ok (.value (.tuple #[])) w := by
      have e1 : sliced a i i cap E.size = .slice (if cap = i then a else a.map (·.add (i * E.size))) 0 (cap - i) := by unfold sliced; rw [Nat.sub_self]
      rw [e1] at hs
      generalize (if cap = i then a else a.map (·.add (i * E.size))) = ad at hs
      cases ad <;> simp [BigFrame.execOp_builtin, BigFrame.builtin_clear, hst.regs.eval hs, Builtin.clear_, run_underlying hu]
    unfold Oper.wp
    rw [hrun, Oper.upon_value]
    refine hK _ _ (k (E.enc xs) ?_ _ _ ⟨hst.regs, hst.below, hst.sat.again hr, hst.base, hst.kd, hst.marks⟩)
    rw [← hlen]
    exact Enc.enc_take E xs _ (Nat.le_refl _)
  obtain ⟨h1', h2⟩ := hok
  rcases h2 with ⟨hv, hn⟩ | ⟨g, cap', cur, hv, hb, hg, hnc, hcm, hcs, htake⟩
  · omega
  cases hv
  have hlt := (Array.getElem?_eq_some_iff.1 hg).1
  have e1 : sliced (some ⟨g, 0, none⟩) i n cap E.size = .slice (some ⟨g, i * E.size, none⟩) (n - i) (cap - i) := by
    unfold sliced; rw [if_neg (by omega)]; simp [Addr.add]
    try exact fun h => h.symm
  rw [e1] at hs
  have hmul : i * E.size + (n - i) * E.size = n * E.size := by rw [← Nat.add_mul]; congr 1; omega
  have hcapm : n * E.size ≤ cap * E.size := Nat.mul_le_mul_right _ hnc
  have hzl : (Builtin.zeroCells z.cells (n - i)).toList.length = (n - i) * E.size := by rw [Array.length_toList, size_zeroCells, hul]
  obtain ⟨cur', r1, r2, r3⟩ := run_storeCells (P := P) g e (Builtin.zeroCells z.cells (n - i)).toList (i * E.size) 0 cur w hg (by rw [hzl]; omega) (fun u hu' => List.all_eq_true.1 h1 u (mem_zeroCells (by rw [hul]; exact E.pos) hu'))
  obtain ⟨m, hm⟩ : ∃ m, n - i = m + 1 := ⟨n - i - 1, by omega⟩
  have hrun : (execOp a0.eval { dst := none, op := .call { callee := .builtin .clear, args := #[s], argTypes := #[t] }, type := ty, pos, after, guard := none }).run P w = .ok (.value (.tuple #[])) { w with heap := w.heap.setIfInBounds g (.cells cur' e (0, 0)) } := by
    rw [hm] at hs r1
    simp [BigFrame.execOp_builtin, BigFrame.builtin_clear, hst.regs.eval hs, Builtin.clear_, run_underlying hu, hzr, r1]
  unfold Oper.wp
  rw [hrun, Oper.upon_value]
  refine hK _ _ (k (cur'.toList.take (n * E.size)) ?_ _ _ (hst.step hst.regs (Below.setBlk hst.below hb _) ?_ (by simpa using hst.base) (Kd.one g (fun k _ hk => setBlk_other w g k _ hk) (fun o ho => .inl (by rw [hg] at ho; cases ho; rfl)))))
  · rw [← Enc.enc_take E xs i (by omega), List.take_take, Nat.min_eq_left (by omega)]
    apply List.ext_getElem?
    intro j
    rw [List.getElem?_take, List.getElem?_take]
    by_cases hj : j < i * E.size
    · rw [if_pos hj, if_pos hj, Array.getElem?_toList, r3 j, if_neg (by omega), ← htake, List.getElem?_take, if_pos (by omega), Array.getElem?_toList]
    · rw [if_neg hj, if_neg hj]
  · refine hst.sat.turn hr (e' := .row (some ⟨g, 0, none⟩) n cap (cur'.toList.take (n * E.size)) e E.size) ?_ (fun k _ hk => setBlk_other w g k _ (fun e => hk (by simp [Ent.own, e]))) (fun b' hb' => .inl hb')
    exact ⟨by rw [List.length_take, Array.length_toList, r2, hcs]; exact Nat.min_eq_left hcapm, .inr ⟨g, cap, cur', rfl, hb, by simp [hlt], hnc, hcm, by rw [r2, hcs], rfl⟩⟩
end
end Go.Proofs.Ytogcclagmobkiaa.Hx
