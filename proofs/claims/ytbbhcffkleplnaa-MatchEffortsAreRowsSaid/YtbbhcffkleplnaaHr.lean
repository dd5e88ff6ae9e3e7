/-
  Rows of rows: inner rows stand at the end of the list of blocks, by number.
-/
import Derived.Test.YtbbhcffkleplnaaHg
import Derived.Test.YtbbhcffkleplnaaEnc
namespace Go.Proofs.Ytbbhcffkleplnaa.Hx
open Go Go.RowKit
set_option linter.unusedVariables false
set_option linter.unusedSimpArgs false
section
variable {P : Program} {N : Fr} {B : Nat} {w0 : World} {Q : Exit → Act → World → Prop} {al : AL} {H : HL} {ops rest : List Oper}
theorem wp_loopT {c : Code} {σ : Type} (I : σ → Prop) (M : σ → AL) (L : AL) (G : σ → HL) (G0 : HL) (T : σ → HL) (μ : σ → Nat) (s0 : σ) (h0 : I s0) (hs : Sub (M s0) al) (hL : Sub L al) (hh : SubH (G s0) H) (hh0 : SubH G0 H) (ht : SubH (T s0) H)
    (round : ∀ s, I s → ∀ K : Act → World → Prop, (∀ s' al' H', I s' → μ s' < μ s → Sub (M s') al' → Sub L al' → SubH (G s') H' → SubH G0 H' → SubH (T s') H' → KP N B w0 K al' H') → WP P N B w0 c (Exit.then K Q) (M s ++ L) (G s ++ (G0 ++ T s))) :
    WP P N B w0 (.loop c) Q al H :=
  wp_loop' I (fun s => M s ++ L) (fun s => G s ++ (G0 ++ T s)) μ s0 h0 (sub_app hs hL) (subH_app hh (subH_app hh0 ht)) (fun s hI K hK => round s hI K fun s' al' H' h1 h2 h3 h4 h5 h6 h7 => (hK s' h1 h2).sub (sub_app h3 h4) (subH_app h5 (subH_app h6 h7)))
theorem Sat.rekey {w : World} (h : Sat B w H) {i j : Nat} {e : Ent} (hi : look H i = some e) (hij : i ≠ j) : Sat B w ((j, e) :: (i, .gone) :: H) := by
  have h2 := h.forget i
  refine h2.set j (h.ok i e hi) (fun _ _ _ => rfl) fun k f hk hf b hb hfb => ?_
  by_cases hki : k = i
  · subst hki; rw [look_cons_eq] at hf; cases hf; simp [Ent.own] at hfb
  · rw [look_cons_ne _ _ (Ne.symm hki)] at hf
    exact h.apart i k e f (Ne.symm hki) hi hf b hb hfb
theorem ol_rekey (i j : Nat) {e : Ent} (hi : look H i = some e) (hij : i ≠ j) (k : OL P N B w0 ops rest Q al ((j, e) :: (i, .gone) :: H)) : OL P N B w0 ops rest Q al H :=
  fun a w hst => k a w ⟨hst.regs, hst.below, hst.sat.rekey hi hij, hst.base, hst.kd, hst.marks⟩
end
abbrev Sl := Option Addr × Nat × Nat
/-- A struct of one slice, as an element. -/
def encSl : Enc Sl := { size := 1, cells := fun x => [.slice x.1 x.2.1 x.2.2], val := fun x => .agg #[.slice x.1 x.2.1 x.2.2], len := fun _ => rfl, ones := fun _ u h => by simp at h; subst h; rfl, pos := by decide, vc := fun _ => rfl }
def rowOf (T : TypeId) (x : Sl × List Int) : Ent := .row x.1.1 x.1.2.1 x.1.2.2 (encI.enc x.2) T 1
def innH (T : TypeId) (base : Nat) : List (Sl × List Int) → HL
  | [] => []
  | x :: r => (base, rowOf T x) :: innH T (base + 1) r
theorem look_inn {T : TypeId} : ∀ {L : List (Sl × List Int)} {base j : Nat} {x : Sl × List Int}, L[j]? = some x → look (innH T base L) (base + j) = some (rowOf T x)
  | [], base, j, x, h => by simp at h
  | y :: r, base, 0, x, h => by cases h; exact look_cons_eq _ _ _
  | y :: r, base, j + 1, x, h => by
    rw [innH, look_cons_ne _ _ (by omega), show base + (j + 1) = base + 1 + j by omega]
    exact look_inn (L := r) h
theorem subH_inn {T : TypeId} {H' : HL} : ∀ {L : List (Sl × List Int)} {base : Nat}, (∀ j x, L[j]? = some x → look H' (base + j) = some (rowOf T x)) → SubH (innH T base L) H'
  | [], _, _ => trivial
  | y :: r, base, h => ⟨⟨_, h 0 y rfl, Ent.le_refl _⟩, subH_inn (L := r) fun j x hj => by rw [show base + 1 + j = base + (j + 1) by omega]; exact h (j + 1) x hj⟩
theorem subH_snoc {T : TypeId} {H' : HL} {L : List (Sl × List Int)} {base : Nat} {y : Sl × List Int} (h1 : ∀ j x, L[j]? = some x → look H' (base + j) = some (rowOf T x)) (h2 : look H' (base + L.length) = some (rowOf T y)) : SubH (innH T base (L ++ [y])) H' :=
  subH_inn fun j x hj => by
    by_cases hlt : j < L.length
    · rw [List.getElem?_append_left hlt] at hj; exact h1 j x hj
    · rw [List.getElem?_append_right (by omega)] at hj
      have hj0 : j - L.length = 0 := by
        apply Decidable.byContradiction; intro h
        rw [List.getElem?_eq_none (by simp; omega)] at hj; cases hj
      rw [hj0] at hj; cases hj
      rw [show j = L.length by omega]; exact h2
theorem look_inn_none {T : TypeId} : ∀ {L : List (Sl × List Int)} {base i : Nat}, i < base ∨ base + L.length ≤ i → look (innH T base L) i = none
  | [], _, _, _ => rfl
  | y :: r, base, i, h => by
    rw [List.length_cons] at h
    rw [innH, look_cons_ne _ _ (by omega)]
    exact look_inn_none (L := r) (by omega)
theorem look_inn_app {T : TypeId} {L : List (Sl × List Int)} {base j : Nat} {x : Sl × List Int} {R : HL} (h : L[j]? = some x) : look (innH T base L ++ R) (base + j) = some (rowOf T x) := by
  rw [look_append, look_inn h]
theorem look_inn_skip {T : TypeId} {L : List (Sl × List Int)} {base i : Nat} {R : HL} (h : i < base ∨ base + L.length ≤ i) : look (innH T base L ++ R) i = look R i := by
  rw [look_append, look_inn_none h]
/-- A list of rows that reads so. -/
structure RdE (C : Nat) (w : World) (a : Option Addr) (n c : Nat) (L : List (Sl × List Int)) : Prop where
  out : Rd encSl C w a n c (L.map (·.1))
  inn : ∀ (j : Nat) (x : Sl × List Int), L[j]? = some x → Rd encI C w x.1.1 x.1.2.1 x.1.2.2 x.2
theorem RdE.at {B : Nat} {w0 w : World} {a : Option Addr} {n c : Nat} {L : List (Sl × List Int)} (h : RdE B w0 a n c L) (hb : Below B w0 w) (hB : B ≤ w.heap.size) : RdE w.heap.size w a n c L :=
  ⟨h.out.at hb hB, fun j x hj => (h.inn j x hj).at hb hB⟩
theorem RdE.len {C : Nat} {w : World} {a : Option Addr} {n c : Nat} {L : List (Sl × List Int)} (h : RdE C w a n c L) : L.length = n := by
  have := h.out.len; rwa [List.length_map] at this
theorem Sat.rdE {B : Nat} {w : World} {H : HL} {id base n c : Nat} {a : Option Addr} {L : List (Sl × List Int)} {T U : TypeId} (h : Sat B w H) (ho : look H id = some (.row a n c (encSl.enc (L.map (·.1))) T 1)) (hi : ∀ (j : Nat) (x : Sl × List Int), L[j]? = some x → look H (base + j) = some (rowOf U x)) : RdE w.heap.size w a n c L :=
  ⟨h.rd ho rfl, fun j x hj => h.rd (hi j x hj) rfl⟩
/-- A list of rows in memory of its own. -/
def OwnE (B : Nat) (w : World) (T U : TypeId) (id base : Nat) (a : Option Addr) (n c : Nat) (L : List (Sl × List Int)) : Prop := Sat B w ((id, .row a n c (encSl.enc (L.map (·.1))) T 1) :: innH U base L)
theorem OwnE.rd {B : Nat} {w : World} {T U : TypeId} {id base : Nat} {a : Option Addr} {n c : Nat} {L : List (Sl × List Int)} (h : OwnE B w T U id base a n c L) (hid : id < base) : RdE w.heap.size w a n c L :=
  Sat.rdE h (id := id) (base := base) (U := U) (look_cons_eq _ _ _) fun j x hj => (look_cons_ne _ _ (by omega)).trans (look_inn hj)
theorem Sat.cong {B : Nat} {w : World} {H H' : HL} (h : Sat B w H) (he : ∀ i, look H' i = look H i) : Sat B w H' :=
  ⟨fun i e hi => h.ok i e (by rw [← he]; exact hi), fun i j e f hij hi hj => h.apart i j e f hij (by rw [← he]; exact hi) (by rw [← he]; exact hj)⟩
theorem ol_rekeyT {P : Program} {N : Fr} {B : Nat} {w0 : World} {Q : Exit → Act → World → Prop} {al : AL} {H : HL} {ops rest : List Oper} (i j : Nat) {e : Ent} (hi : look H i = some e) (hij : i ≠ j) (hj : look H j = none) (k : OL P N B w0 ops rest Q al ((i, .gone) :: (H ++ [(j, e)]))) : OL P N B w0 ops rest Q al H := by
  intro a w hst
  refine k a w ⟨hst.regs, hst.below, (hst.sat.rekey hi hij).cong fun n => ?_, hst.base, hst.kd, hst.marks⟩
  by_cases h1 : n = i
  · subst h1; rw [look_cons_eq, look_cons_ne _ _ (Ne.symm hij), look_cons_eq]
  · rw [look_cons_ne _ _ (Ne.symm h1), look_append]
    by_cases h2 : n = j
    · subst h2; rw [hj, look_cons_eq, look_cons_eq]
    · rw [look_cons_ne _ _ (Ne.symm h2), look_cons_ne _ _ (Ne.symm h2), look_cons_ne _ _ (Ne.symm h1)]
      cases look H n <;> rfl
/-- Other numbers for a list of rows. -/
theorem OwnE.num {B : Nat} {w : World} {T U : TypeId} {id base : Nat} {a : Option Addr} {n c : Nat} {L : List (Sl × List Int)} (h : OwnE B w T U id base a n c L) (hid : id < base) (id' base' : Nat) (hid' : id' < base') : OwnE B w T U id' base' a n c L := by
  have key : ∀ i e, look ((id', Ent.row a n c (encSl.enc (L.map (·.1))) T 1) :: innH U base' L) i = some e → (i = id' ∧ look ((id, Ent.row a n c (encSl.enc (L.map (·.1))) T 1) :: innH U base L) id = some e) ∨ (∃ j, i = base' + j ∧ j < L.length ∧ look ((id, Ent.row a n c (encSl.enc (L.map (·.1))) T 1) :: innH U base L) (base + j) = some e) := by
    intro i e hi
    by_cases h1 : i = id'
    · subst h1; rw [look_cons_eq] at hi; exact .inl ⟨rfl, by rw [look_cons_eq]; exact hi⟩
    · rw [look_cons_ne _ _ (Ne.symm h1)] at hi
      by_cases h2 : i < base' ∨ base' + L.length ≤ i
      · rw [look_inn_none h2] at hi; cases hi
      · obtain ⟨j, rfl⟩ : ∃ j, i = base' + j := ⟨i - base', by omega⟩
        have hx := List.getElem?_eq_getElem (l := L) (i := j) (by omega)
        rw [look_inn hx] at hi
        exact .inr ⟨j, rfl, by omega, by rw [look_cons_ne _ _ (by omega), look_inn hx]; exact hi⟩
  refine ⟨fun i e hi => ?_, fun i k e f hik hi hk => ?_⟩
  · rcases key i e hi with ⟨_, h2⟩ | ⟨j, _, _, h2⟩ <;> exact h.ok _ _ h2
  · rcases key i e hi with ⟨h1, h2⟩ | ⟨j, h1, _, h2⟩ <;> rcases key k f hk with ⟨h3, h4⟩ | ⟨j', h3, _, h4⟩
    · omega
    · exact h.apart _ _ e f (by omega) h2 h4
    · exact h.apart _ _ e f (by omega) h2 h4
    · exact h.apart _ _ e f (by omega) h2 h4
/-- A list of rows that comes back: its inner rows stand behind all. -/
theorem After.moreE {P : Program} {N : Fr} {B : Nat} {w0 : World} {Q : Exit → Act → World → Prop} {al : AL} {H : HL} {ops rest : List Oper} {e : Ending} {w w' : World} {v : Value} {d : Nat} {T U : TypeId} {id base : Nat} {a : Option Addr} {n c : Nat} {L : List (Sl × List Int)} (he : e = .returned v) (hw : Below B w0 w) (hs : Sat B w H) (hb : B ≤ w.heap.size) (hbl : Below w.heap.size w w')
    (h' : OwnE w.heap.size w' T U id base a n c L) (hid : id < base) (hH : ∀ i, base ≤ i → i < base + L.length → look H i = none) (k : OL P N B w0 ops rest Q ((d, v) :: al) ((id, .row a n c (encSl.enc (L.map (·.1))) T 1) :: (H ++ innH U base L))) : After P N B w0 w ops rest Q al (some d) e w' := by
  have h2 := Sat.more hs hb (fun k hk => hbl.block k hk) h'
  refine ⟨v, _, he, hw.trans (hbl.mono hb), h2.cong fun i => ?_, Nat.le_trans hb hbl.size, Kd.of_below hbl, k⟩
  rw [List.cons_append]
  by_cases h1 : i = id
  · subst h1; rw [look_cons_eq, look_cons_eq]
  · rw [look_cons_ne _ _ (Ne.symm h1), look_cons_ne _ _ (Ne.symm h1), look_append, look_append]
    by_cases h3 : i < base ∨ base + L.length ≤ i
    · rw [look_inn_none h3]
      cases look H i <;> rfl
    · rw [hH i (by omega) (by omega)]
      cases look (innH U base L) i <;> rfl
theorem encSl_snoc (L : List (Sl × List Int)) (x : Sl × List Int) : encSl.enc ((L ++ [x]).map (·.1)) = encSl.enc (L.map (·.1)) ++ [.slice x.1.1 x.1.2.1 x.1.2.2] := by
  rw [List.map_append, Enc.enc_append]; rfl
end Go.Proofs.Ytbbhcffkleplnaa.Hx
