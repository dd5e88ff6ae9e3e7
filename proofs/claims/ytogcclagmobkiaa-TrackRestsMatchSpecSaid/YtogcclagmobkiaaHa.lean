/-
  More rules: an append of all of a slice to a slice of one's own.
-/
import Derived.Test.YtogcclagmobkiaaHw
namespace Go.Proofs.Ytogcclagmobkiaa.Hx
open Go Go.RowKit
set_option linter.unusedVariables false
set_option linter.unusedSimpArgs false
section
variable {P : Program} {N : Fr} {B : Nat} {w0 : World} {Q : Exit → Act → World → Prop} {al : AL} {H : HL} {ops rest : List Oper} {d : Nat} {ty : TypeId} {pos : String} {after : Array Edge}
theorem run_append0 {t e : TypeId} {size bytes n cap c : Nat} {a : Option Addr} {w : World} (hT : RowT P t e size bytes) (hc : n ≤ cap) :
    (Builtin.append_ #[t, t] ty #[.slice a n cap, .slice none 0 c]).run P w = .ok (.slice a n cap) w := by
  obtain ⟨hu, i, z, hi, hz, hsz, hby, hzz, hpos⟩ := hT
  cases a <;> simp [Builtin.append_, run_underlying hu, sizeOf, typeInfo, hi, Builtin.lenOf, Builtin.firstCells, hc, storeCells]
theorem Sat.again {w : World} {id : Nat} {e : Ent} (hs : Sat B w H) (hr : look H id = some e) : Sat B w ((id, e) :: H) :=
  ⟨fun i f hf => hs.ok i f (by
    by_cases h : id = i
    · subst h; rw [look_cons_eq] at hf; rw [hr]; exact hf
    · rwa [look_cons_ne _ _ h] at hf), fun i j f g hij hf hg => hs.apart i j f g hij (by
    by_cases h : id = i
    · subst h; rw [look_cons_eq] at hf; rw [hr]; exact hf
    · rwa [look_cons_ne _ _ h] at hf) (by
    by_cases h : id = j
    · subst h; rw [look_cons_eq] at hg; rw [hr]; exact hg
    · rwa [look_cons_ne _ _ h] at hg)⟩
theorem ol_append0 {s x : Operand} {id n cap c : Nat} {a : Option Addr} {xs : List Value} {t e : TypeId} {size bytes : Nat} (hs : ev al s = some (.slice a n cap)) (hr : look H id = some (.row a n cap xs e size))
    (hx : ev al x = some (.slice none 0 c)) (hT : RowT P t e size bytes) (hd : Nat.blt d N.n = true)
    (k : OL P N B w0 ops rest Q ((d, .slice a n cap) :: al) ((id, .row a n cap xs e size) :: H)) :
    OL P N B w0 ops ({ dst := some d, op := .call { callee := .builtin .append, args := #[s, x], argTypes := #[t, t] }, type := ty, pos, after, guard := none } :: rest) Q al H := by
  intro a0 w hst
  have hok : w.ownsRow B e size (.slice a n cap) n xs := hst.sat.ok _ _ hr
  have hc : n ≤ cap := by
    rcases hok.2 with ⟨h1, h2⟩ | ⟨g, cap', cur, hv, hb, hg, h3, h4, h5⟩
    · omega
    · cases hv; exact h3
  refine ol_r (v := .slice a n cap) (fun a w hst => ?_) hd (fun a w hst => k a w ⟨hst.regs, hst.below, hst.sat.again hr, hst.base, hst.kd, hst.marks⟩) a0 w hst
  simp [BigFrame.execOp_builtin, BigFrame.builtin_append, hst.regs.eval hs, hst.regs.eval hx, run_append0 (ty := ty) hT hc]
theorem ol_appendR {α : Type} (E : Enc α) {s x : Operand} {id n cap m c : Nat} {a ad : Option Addr} {xs ys : List α} {t e : TypeId} {size bytes : Nat} (hl : Rd E B w0 ad m c ys) (hs : ev al s = some (.slice a n cap)) (hr : look H id = some (.row a n cap (E.enc xs) e size))
    (hx : ev al x = some (.slice ad m c)) (hz : size = E.size) (hT : RowT P t e size bytes)
    (hb : n + m ≤ 9223372036854775807 ∧ (n + m) * bytes ≤ 140737488355328) (hd : Nat.blt d N.n = true)
    (k : ∀ a' cap', OL P N B w0 ops rest Q ((d, .slice a' (n + m) cap') :: al) ((id, .row a' (n + m) cap' (E.enc (xs ++ ys)) e size) :: H)) :
    OL P N B w0 ops ({ dst := some d, op := .call { callee := .builtin .append, args := #[s, x], argTypes := #[t, t] }, type := ty, pos, after, guard := none } :: rest) Q al H := by
  have hlen := hl.len
  cases ad with
  | none =>
    have hm : m = 0 := by
      cases m with
      | zero => rfl
      | succ m => have := hl.isSome (by omega); simp at this
    subst hm
    have hys : ys = [] := List.eq_nil_of_length_eq_zero hlen
    subst hys
    refine ol_append0 hs hr hx hT hd ?_
    have h := k a cap
    simpa using h
  | some p =>
    refine ol_append (id := id) (news := E.enc ys) hs hr hx hT (by rw [Enc.enc_len, hlen, hz]) (E.ones_enc ys) (fun w1 hb1 hs1 hB1 => ⟨p, rfl, (hl.below hb1).flat rfl⟩) hb hd fun a' c' => ?_
    have h := k a' c'
    rwa [Enc.enc_append] at h
theorem ol_appendO {α : Type} (E : Enc α) {s x : Operand} {id id2 n cap m c : Nat} {a ad : Option Addr} {xs ys : List α} {t e : TypeId} {size bytes : Nat} (hs : ev al s = some (.slice a n cap)) (hr : look H id = some (.row a n cap (E.enc xs) e size))
    (hx : ev al x = some (.slice ad m c)) (hr2 : look H id2 = some (.row ad m c (E.enc ys) e size)) (hz : size = E.size) (hT : RowT P t e size bytes)
    (hb : n + m ≤ 9223372036854775807 ∧ (n + m) * bytes ≤ 140737488355328) (hd : Nat.blt d N.n = true)
    (k : ∀ a' cap', OL P N B w0 ops rest Q ((d, .slice a' (n + m) cap') :: al) ((id, .row a' (n + m) cap' (E.enc (xs ++ ys)) e size) :: H)) :
    OL P N B w0 ops ({ dst := some d, op := .call { callee := .builtin .append, args := #[s, x], argTypes := #[t, t] }, type := ty, pos, after, guard := none } :: rest) Q al H := by
  intro a0 w hst
  have hl : Rd E w.heap.size w ad m c ys := hst.sat.rd hr2 hz
  have hlen := hl.len
  cases ad with
  | none =>
    have hm : m = 0 := by
      cases m with
      | zero => rfl
      | succ m => have := hl.isSome (by omega); simp at this
    subst hm
    have hys : ys = [] := List.eq_nil_of_length_eq_zero hlen
    subst hys
    refine ol_append0 hs hr hx hT hd ?_ a0 w hst
    have h := k a cap
    simpa using h
  | some p =>
    refine ol_append (id := id) (news := E.enc ys) hs hr hx hT (by rw [Enc.enc_len, hlen, hz]) (E.ones_enc ys) (fun w1 hb1 hs1 hB1 => ⟨p, rfl, (hs1.rd hr2 hz).flat rfl⟩) hb hd (fun a' c' => ?_) a0 w hst
    have h := k a' c'
    rwa [Enc.enc_append] at h
end
section
variable {P : Program} {N : Fr} {B : Nat} {w0 : World} {Q : Exit → Act → World → Prop} {Ss : List (Nat × HL)} {ops : Array Oper} {listed : Array Bool} {n : Nat} {al : AL} {H : HL} {d : Nat} {ty : TypeId} {pos : String} {after : Array Edge} {Hj : HL}
/-- A part of a slice that is only read, in free order. -/
theorem aq_slr {α : Type} {xs : List α} {a : Option Addr} {m cap : Nat} {t : TypeId} {s : Operand} {lo hi : Option Operand} {l h : Option Int} {E : Enc α} (i j : Nat) (hi' : ops[i]? = some { dst := some d, op := .slice t s lo hi none, type := ty, pos, after, guard := none }) (hs : Region.noSelect ops = true) (hf : Region.free .any ops listed i = true) (hr : (Region.ready .any ops listed).contains i = true)
    (hm : (j, Hj) ∈ Ss) (hw : (Region.waitsFor .any ops j i || Nat.ble ops.size j) = true) (hn : (Ss.map (·.1)).contains i = false) (hd : Nat.blt d N.n = true)
    (hl : Rd E B w0 a m cap xs) (h1 : ev al s = some (.slice a m cap)) (hlo : evo al lo = some l) (hhi : evo al hi = some h) (hT : Slc P t E.size) (h0 : 0 ≤ l.getD 0 ∧ l.getD 0 ≤ h.getD m ∧ h.getD m ≤ m)
    (k : ∀ a' c', Rd E B w0 a' ((h.getD m).toNat - (l.getD 0).toNat) c' ((xs.drop (l.getD 0).toNat).take ((h.getD m).toNat - (l.getD 0).toNat)) → AQ P N B w0 ops Q Ss n (listed.setIfInBounds i true) ((d, .slice a' ((h.getD m).toNat - (l.getD 0).toNat) c') :: al) H) : AQ P N B w0 ops Q Ss (n + 1) listed al H := by
  obtain ⟨a', c', h2, h3⟩ := hl.part (l := (l.getD 0).toNat) (h := (h.getD m).toNat) (by omega) (by omega)
  have hr' := r_sl (P := P) (N := N) (B := B) (w0 := w0) (H := Hj) (ty := ty) (lo := lo) (hi := hi) h1 hlo hhi hT ⟨h0.1, h0.2.1, by have := hl.room; omega⟩ hl.room.1
  rw [h2] at hr'
  exact aq_r i j hi' hs hf hr hm hw hn hd hr' (k a' c' h3)
end
end Go.Proofs.Ytogcclagmobkiaa.Hx
