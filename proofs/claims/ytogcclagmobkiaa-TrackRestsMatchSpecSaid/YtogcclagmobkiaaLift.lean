/-
  From the readings of the arguments to the lists of the walks: slices of integers.
-/
import Derived.Test.YtogcclagmobkiaaRows
import Derived.Test.YtogcclagmobkiaaEnc
import Derived.WalkKit
import Derived.ProofKit
import Derived.OpenShut
import Derived.ShutString
import Derived.ChangeOld
import Derived.Below
import Derived.Deep.Slices
import Derived.ChangeArms
namespace Go.Proofs.Ytogcclagmobkiaa
open Go Hx Go.ChangeShapes Go.WideShapes Go.ChangeAt Go.RowKit
set_option linter.unusedVariables false
set_option maxRecDepth 8000

theorem lift_own : ownKnob Try.prog.godebug = none := by kernel_rfl
theorem lift_laid : laidOutB Try.prog = true := by kernel_rfl

theorem rd_ints {W : World} {x : Addr} {len cap : Nat} {zs : List Int} (hl : len ≤ cap) (hm : cap ≤ maxLen) (hz : zs.length = cap) (hcell : ∀ i, i < zs.length → W.cell? (x.add i) = some (.int .i64 (zs.getD i 0))) :
    Rd encI W.heap.size W (some x) len cap (zs.take len) := by
  refine ⟨by simp; omega, by unfold maxLen at hm; omega, ⟨hl, by unfold maxLen at hm; omega⟩, fun i y hy => ?_⟩
  have hi : i < len := by
    have := (List.getElem?_eq_some_iff.1 hy).1
    simp at this; omega
  have h0 := hcell 0 (by omega)
  have hx0 : x.add 0 = x := by simp [Addr.add]
  rw [hx0] at h0
  obtain ⟨b, off, spot⟩ := x
  have hspot : spot = none := by simpa using World.cell?_spot h0
  subst hspot
  refine ⟨b, off, rfl, World.block_lt_of_cell? W _ h0, fun j u hu => ?_⟩
  have hj : j = 0 ∧ u = .int .i64 y := by
    cases j with
    | zero => simp [encI] at hu; exact ⟨rfl, hu.symm⟩
    | succ j => simp [encI] at hu
  obtain ⟨rfl, rfl⟩ := hj
  have hc := hcell i (by omega)
  rw [add_none] at hc
  show W.cell? ⟨b, off + i * 1 + 0, none⟩ = _
  rw [Nat.mul_one, Nat.add_zero, hc]
  have : zs.getD i 0 = y := by
    rw [List.getElem?_take, if_pos hi] at hy
    simp [List.getD_eq_getElem?_getD, hy]
  rw [this]

/-- A slice of integers among the arguments, opened. -/
theorem open_intsR {H : Type} {enc : TypeId × Value → H} {W : World} {base : Nat} {t e : TypeId} {v : Value} {d : DataW H} {p : List MemPlace} (ht : Try.prog.underlying t = some (.slice e)) (he : Try.prog.underlying e = some (.int .i64)) (hc : Try.prog.cellsOf e = 1)
    (hv : ∃ a len cap, v = .slice a len cap) (h : ∃ fuel, DataW.trod enc Try.prog W base (fun _ => true) true fuel t v.cells.toList = some (d, p)) :
    ∃ a n cap xs, v = .slice a n cap ∧ Rd encI W.heap.size W a n cap xs := by
  obtain ⟨a0, len0, cap0, rfl⟩ := hv
  obtain ⟨fuel, hf⟩ := h
  rcases open_ints ht he hc hf with ⟨hcs, _⟩ | ⟨x, l, c, zs, hcs, _, hl, hm, hz, _, hcell, hwz⟩
  · simp [Value.cells] at hcs
    obtain ⟨rfl, rfl, rfl⟩ := hcs
    exact ⟨none, 0, 0, [], rfl, Rd.nil⟩
  · simp [Value.cells] at hcs
    obtain ⟨rfl, rfl, rfl⟩ := hcs
    exact ⟨_, _, _, _, rfl, rd_ints hl hm (by simpa using hz) hcell⟩

/-! #### cells of structs, opened down to their one-cell parts -/
def goF (P : Program) (fl : TypeId → Option (List TypeId)) : List Field → Nat → Option (List TypeId)
  | [], _ => some []
  | f :: r, off => if f.offset = off then (fl f.type).bind fun a => if a.length = P.cellsOf f.type then (goF P fl r (off + a.length)).map (a ++ ·) else none else none
def flatL (P : Program) : Nat → TypeId → Option (List TypeId)
  | 0, _ => none
  | n + 1, t => match P.underlying t with
    | some (.struct fs) => (goF P (flatL P n) fs.toList 0).bind fun a => if a.length = P.cellsOf t then some a else none
    | some (.array ..) => none
    | some _ => if P.cellsOf t = 1 then some [t] else none
    | none => none
section
variable {H : Type} {enc : TypeId × Value → H} {P : Program} {W : World} {base : Nat} {sp : Nat → Bool} {held : Bool}
def Leaf (enc : TypeId × Value → H) (P : Program) (W : World) (base : Nat) (sp : Nat → Bool) (held : Bool) (t : TypeId) (v : Value) (q : List MemPlace) : Prop :=
  ∃ n d p, DataW.trod enc P W base sp held n t [v] = some (d, p) ∧ ∀ x ∈ p, x ∈ q
theorem trod_cells_other {t : TypeId} {n : Nat} {cs : List Value} {x : DataW H × List MemPlace} (h : DataW.trod enc P W base sp held n t cs = some x) (hs : ∀ fs, P.underlying t ≠ some (.struct fs)) (ha : ∀ m e, P.underlying t ≠ some (.array m e)) : cs.length = 1 := by
  cases n with
  | zero => simp [DataW.trod] at h
  | succ n =>
    unfold DataW.trod at h
    split at h <;> first | rfl | (simp at h; done) | (exact absurd (by assumption) (hs _)) | (exact absurd (by assumption) (ha _ _))
theorem goF_leaves {fl : TypeId → Option (List TypeId)} {cs : List Value} {n : Nat} {q : List MemPlace}
    (hfl : ∀ (t : TypeId) (ts : List TypeId) (cs : List Value) (x : DataW H × List MemPlace), fl t = some ts → DataW.trod enc P W base sp held n t cs = some x → (∀ (i : Nat) (t : TypeId) (v : Value), ts[i]? = some t → cs[i]? = some v → Leaf enc P W base sp held t v x.2)) :
    ∀ (fs : List Field) (xs : List (DataW H × List MemPlace)) (off : Nat) (ts : List TypeId), goF P fl fs off = some ts → xs.length = fs.length → (∀ x ∈ xs, ∀ y ∈ x.2, y ∈ q) →
      (∀ (i : Nat) (f : Field), fs[i]? = some f → DataW.trod enc P W base sp held n f.type ((cs.drop f.offset).take (P.cellsOf f.type)) = xs[i]?) →
      ∀ (i : Nat) (t : TypeId) (v : Value), ts[i]? = some t → cs[off + i]? = some v → Leaf enc P W base sp held t v q
  | [], xs, off, ts, hg, _, _, _, i, t, v, ht, _ => by
    simp [goF] at hg; subst hg; simp at ht
  | f :: r, xs, off, ts, hg, hl, hq, hx, i, t, v, ht, hv => by
    unfold goF at hg
    split at hg
    · rename_i hoff
      obtain ⟨a, ha, hg⟩ := Option.bind_eq_some_iff.1 hg
      split at hg
      · rename_i hal
        obtain ⟨b, hb, rfl⟩ := Option.map_eq_some_iff.1 hg
        match xs, hl with
        | x0 :: xr, hl =>
          by_cases hi : i < a.length
          · have h0 := hx 0 f rfl
            rw [show (x0 :: xr)[0]? = some x0 from rfl] at h0
            obtain ⟨m, d, p, h1, h2⟩ := hfl _ _ _ _ ha h0 i t v (by rwa [List.getElem?_append_left hi] at ht) (by rw [List.getElem?_take_of_lt (by omega), List.getElem?_drop, hoff]; exact hv)
            exact ⟨m, d, p, h1, fun y hy => hq x0 (by simp) y (h2 y hy)⟩
          · refine goF_leaves hfl r xr (off + a.length) b hb (by simpa using hl) (fun x hx' => hq x (by simp [hx'])) (fun j g hj => by have := hx (j + 1) g (by simpa using hj); simpa using this) (i - a.length) t v ?_ ?_
            · rwa [List.getElem?_append_right (by omega)] at ht
            · rw [show off + a.length + (i - a.length) = off + i by omega]; exact hv
      · simp at hg
    · simp at hg
theorem leaves : ∀ (f : Nat) {n : Nat} {t : TypeId} {ts : List TypeId} {cs : List Value} {x : DataW H × List MemPlace}, flatL P f t = some ts → DataW.trod enc P W base sp held n t cs = some x →
    cs.length = ts.length ∧ ∀ (i : Nat) (t : TypeId) (v : Value), ts[i]? = some t → cs[i]? = some v → Leaf enc P W base sp held t v x.2
  | 0, n, t, ts, cs, x, hf, _ => by simp [flatL] at hf
  | f + 1, n, t, ts, cs, x, hf, h => by
    unfold flatL at hf
    split at hf
    · rename_i fs hu
      obtain ⟨a, ha, hf⟩ := Option.bind_eq_some_iff.1 hf
      split at hf
      · rename_i hal
        cases hf
        obtain ⟨xs, m, rfl, rfl, hlen, hxl, hx⟩ := DataW.trod_struct hu h
        refine ⟨by omega, fun i t v ht hv => ?_⟩
        refine goF_leaves (n := m) (cs := cs) (fun t ts cs x h1 h2 => (leaves f h1 h2).2) fs.toList xs 0 _ ha (by simpa using hxl) (fun x hx' y hy => List.mem_flatMap.2 ⟨x, hx', hy⟩) (fun i g hg => hx i g (by simpa using hg)) i t v ht (by simpa using hv)
      · simp at hf
    · simp at hf
    · rename_i d hd1 hd2 hu
      split at hf
      · cases hf
        have h1 := trod_cells_other h (fun fs hc => by rw [hu] at hc; cases hc; exact hd1 _ rfl) (fun m e hc => by rw [hu] at hc; cases hc; exact hd2 _ _ rfl)
        refine ⟨h1, fun i t v ht hv => ?_⟩
        match cs, h1 with
        | [c], _ =>
          cases i with
          | zero => simp at ht hv; subst ht; subst hv; exact ⟨n, x.1, x.2, h, fun y hy => hy⟩
          | succ i => simp at ht
      · simp at hf
    · simp at hf
theorem Leaf.int {t : TypeId} {v : Value} {q : List MemPlace} {k : IntKind} (ht : P.underlying t = some (.int k)) (h : Leaf enc P W base sp held t v q) : ∃ n, v = .int k n ∧ (Lit.int k n).wf = true := by
  obtain ⟨n, d, p, h, _⟩ := h
  obtain ⟨n, h1, _, h2⟩ := DataW.trod_int ht h
  simp at h1
  exact ⟨n, h1, h2⟩
theorem Leaf.bool {t : TypeId} {v : Value} {q : List MemPlace} (ht : P.underlying t = some .bool) (h : Leaf enc P W base sp held t v q) : ∃ n, v = .bool n := by
  obtain ⟨n, d, p, h, _⟩ := h
  obtain ⟨n, h1, _⟩ := DataW.trod_bool ht h
  simp at h1
  exact ⟨n, h1⟩
theorem Leaf.string {t : TypeId} {v : Value} {q : List MemPlace} (ht : P.underlying t = some .string) (h : Leaf enc P W base sp held t v q) : ∃ s, v = .string s ∧ s.size ≤ maxLen := by
  obtain ⟨n, d, p, h, _⟩ := h
  obtain ⟨s, h1, _, h2⟩ := DataW.trod_string ht h
  simp at h1
  exact ⟨s, h1, h2⟩
theorem wf_i64 {n : Int} (h : (Lit.int .i64 n).wf = true) : -9223372036854775808 ≤ n ∧ n ≤ 9223372036854775807 := by
  simp [Lit.wf] at h
  revert h; simp [IntKind.signed, IntKind.bits, IntKind.min]; try omega
end
/-- A slice of whatever lies in cells, opened, if its elements can be. -/
theorem open_rowsP {α : Type} (E : Enc α) (p : α → Prop) {H : Type} {enc : TypeId × Value → H} {P : Program} {W : World} {base : Nat} {sp : Nat → Bool} {held : Bool} {fuel : Nat} {t e : TypeId} {cs : List Value} {x : DataW H × List MemPlace} (ht : P.underlying t = some (.slice e)) (hc : P.cellsOf e = E.size)
    (hE : ∀ n cs x, DataW.trod enc P W base sp held n e cs = some x → ∃ y : α, cs = E.cells y ∧ p y) (h : DataW.trod enc P W base sp held fuel t cs = some x) :
    ∃ a n cap xs, cs = [.slice a n cap] ∧ Rd E W.heap.size W a n cap xs ∧ ∀ y ∈ xs, p y := by
  rcases Go.Deep.open_slice ht h with ⟨hcs, _⟩ | ⟨a, len, cap, m, n, D, Pl, hcs, _, hl, hm, hmm, _, hx⟩
  · exact ⟨none, 0, 0, [], hcs, Rd.nil, fun y hy => by simp at hy⟩
  · have hlm : len ≤ m := by rw [hmm]; split <;> omega
    have key : ∀ k, k ≤ len → ∃ ys : List α, ys.length = k ∧ (∀ y ∈ ys, p y) ∧ ∀ (i : Nat) (y : α), ys[i]? = some y → W.cells? base (a.add (i * E.size)) E.size = some (E.cells y) := by
      intro k
      induction k with
      | zero => exact fun _ => ⟨[], rfl, fun y hy => by simp at hy, fun i y hy => by simp at hy⟩
      | succ k ih =>
        intro hk
        obtain ⟨ys, hy1, hyp, hy2⟩ := ih (by omega)
        obtain ⟨cs', h1, h2⟩ := hx k (by omega)
        obtain ⟨y, rfl, hpy⟩ := hE _ _ _ h2
        rw [hc] at h1
        refine ⟨ys ++ [y], by simp [hy1], fun z hz => (by rcases List.mem_append.1 hz with h | h; exact hyp _ h; simp at h; subst h; exact hpy), fun i z hz => ?_⟩
        by_cases hi : i < ys.length
        · rw [List.getElem?_append_left hi] at hz; exact hy2 i z hz
        · have hik : i = k := by have := (List.getElem?_eq_some_iff.1 hz).1; simp at this; omega
          subst hik
          rw [List.getElem?_append_right (by omega)] at hz
          simp [hy1] at hz
          subst hz; exact h1
    obtain ⟨ys, hy1, hyp, hy2⟩ := key len (Nat.le_refl _)
    refine ⟨some a, len, cap, ys, hcs, ⟨hy1, by unfold maxLen at hm; omega, ⟨hl, by unfold maxLen at hm; omega⟩, fun i y hy => ?_⟩, hyp⟩
    obtain ⟨_, h1, h2⟩ := World.cells?_some (hy2 i y hy)
    have hpos := E.pos
    have hi : i < ys.length := (List.getElem?_eq_some_iff.1 hy).1
    have g0 : ys[0]? = some (ys[0]'(by omega)) := List.getElem?_eq_getElem (by omega)
    obtain ⟨_, g1, g2⟩ := World.cells?_some (hy2 0 _ g0)
    have g3 := g2 0 hpos
    have ha0 : (a.add (0 * E.size)).add 0 = a := by simp [Addr.add]
    rw [ha0, List.getElem?_eq_getElem (by omega)] at g3
    obtain ⟨b, off, spot⟩ := a
    have hspot : spot = none := by simpa using World.cell?_spot g3
    subst hspot
    have hadd : ∀ k, (Addr.add ⟨b, off, none⟩ (i * E.size)).add k = ⟨b, off + i * E.size + k, none⟩ := fun k => by rw [add_none, add_none]
    refine ⟨b, off, rfl, World.block_lt_of_cell? W _ g3, fun j u hu => ?_⟩
    have hj : j < E.size := by rw [← h1]; exact (List.getElem?_eq_some_iff.1 hu).1
    have := h2 j hj
    rw [hadd, hu] at this
    exact this
/-- The same with nothing asked of the elements. -/
theorem open_rows {α : Type} (E : Enc α) {H : Type} {enc : TypeId × Value → H} {P : Program} {W : World} {base : Nat} {sp : Nat → Bool} {held : Bool} {fuel : Nat} {t e : TypeId} {cs : List Value} {x : DataW H × List MemPlace} (ht : P.underlying t = some (.slice e)) (hc : P.cellsOf e = E.size)
    (hE : ∀ n cs x, DataW.trod enc P W base sp held n e cs = some x → ∃ y : α, cs = E.cells y) (h : DataW.trod enc P W base sp held fuel t cs = some x) :
    ∃ a n cap xs, cs = [.slice a n cap] ∧ Rd E W.heap.size W a n cap xs := by
  obtain ⟨a, n, cap, xs, h1, h2, _⟩ := open_rowsP E (fun _ => True) ht hc (fun n cs x h => by obtain ⟨y, hy⟩ := hE n cs x h; exact ⟨y, hy, trivial⟩) h
  exact ⟨a, n, cap, xs, h1, h2⟩
end Go.Proofs.Ytogcclagmobkiaa
