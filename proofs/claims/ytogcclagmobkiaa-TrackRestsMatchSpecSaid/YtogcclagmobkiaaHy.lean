/-
  Loops over functions: what an iterator promises, and the loop's rule.
-/
import Derived.Test.YtogcclagmobkiaaHx3
import Derived.RangeFuncNested
namespace Go.Proofs.Ytogcclagmobkiaa.Hx
open Go Go.RowKit
set_option linter.unusedVariables false
set_option linter.unusedSimpArgs false
set_option linter.unusedSectionVars false

/-- What yield promises an iterator: J between two rounds; Jx when a round has said that no more is wanted. -/
def YieldsOver {α : Type} (P : Program) (l : Nat) (encs : α → List Value) (zs : List α) (J : Nat → World → Prop) (Jx : World → Prop) : Prop :=
  ∀ k x W, zs[k]? = some x → J k W → YieldAt Fence.wide 0 P l (encs x).toArray W fun e W' => (e = .returned (.bool true) ∧ J (k + 1) W') ∨ (e = .returned (.bool false) ∧ Jx W')
/-- An iterator over zs, that reads what Rq says. -/
def Iter {α : Type} (P : Program) (gf : FuncId) (lb : List Value) (encs : α → List Value) (zs : List α) (Rq : World → Prop) : Prop :=
  ∀ (l : Nat) (J : Nat → World → Prop) (Jx : World → Prop) (W : World), (∀ k W, J k W → Rq W) → (∀ k W W', J k W → Below W.heap.size W W' → J k W') → (∀ W W', Jx W → Below W.heap.size W W' → Jx W') →
    YieldsOver P l encs zs J Jx → J 0 W → CallsIn Fence.wide 0 P gf ([Value.func (.yield l) #[] #[]] ++ lb).toArray W fun e W' => (∃ v, e = .returned v) ∧ (J zs.length W' ∨ Jx W')

def alp : List Tmp → List Value → AL → AL
  | p :: ps, v :: vs, al => alp ps vs ((p, v) :: al)
  | _, _, al => al
theorem alp_slot : ∀ (ps : List Tmp) (vs : List Value) (al : AL) (tm : Array Value), (∀ p ∈ ps, p < tm.size) → (∀ n v, look al n = some v → tm[n]? = some v) →
    ∀ n v, look (alp ps vs al) n = some v → ((ps.zip vs).foldl (fun t (p : Tmp × Value) => t.setIfInBounds p.1 p.2) tm)[n]? = some v
  | [], _, al, tm, _, h, n, v, hn => h n v (by simpa [alp] using hn)
  | p :: ps, [], al, tm, _, h, n, v, hn => h n v (by simpa [alp] using hn)
  | p :: ps, u :: vs, al, tm, hp, h, n, v, hn => by
    simp only [List.zip_cons_cons, List.foldl_cons]
    refine alp_slot ps vs ((p, u) :: al) (tm.setIfInBounds p u) (fun q hq => by simp; exact hp q (by simp [hq])) (fun m x hm => ?_) n v hn
    by_cases hk : p = m
    · subst hk
      rw [look_cons_eq] at hm; cases hm
      simp [hp p (by simp)]
    · rw [look_cons_ne _ _ hk] at hm
      rw [Array.getElem?_setIfInBounds_ne hk]
      exact h m x hm
theorem foldl_size : ∀ (l : List (Tmp × Value)) (tm : Array Value), (l.foldl (fun t (p : Tmp × Value) => t.setIfInBounds p.1 p.2) tm).size = tm.size
  | [], tm => rfl
  | p :: l, tm => by simp only [List.foldl_cons]; rw [foldl_size l]; simp

theorem zipfold (pl : List Tmp) (vs : List Value) (tm : Array Value) : (pl.toArray.zip vs.toArray).foldl (fun t (p, v) => t.setIfInBounds p v) tm = (pl.zip vs).foldl (fun t (p : Tmp × Value) => t.setIfInBounds p.1 p.2) tm := by
  rw [List.zip_toArray, List.foldl_toArray]

section
variable {P : Program} {B : Nat} {w0 : World} {Q : Exit → Act → World → Prop} {al : AL} {H : HL}
theorem Sat.putFix {w : World} {l : Nat} {o o' : Obj} (h : Sat B w H) (ho : w.heap[l]? = some o) (hk : Obj.known o = false) : Sat B (w.putObj l o') H :=
  ⟨fun i e he => Ent.ok_same (h.ok i e he) fun b hb => World.putObj_heap_other fun e2 => (by
    have := Ent.own_known (h.ok i e he) hb (e2 ▸ ho)
    rw [hk] at this; simp at this), h.apart⟩
theorem Below.putFix {C : Nat} {w1 w : World} {l : Nat} (o : Obj) (h : Below C w1 w) (hC : C ≤ l) (hs : C ≤ w.heap.size) : Below C w1 (w.putObj l o) := h.grown (grownBy_putObj' w l o) hs (fun k e => by cases e; exact hC)
theorem Kd.putFix {C : Nat → Prop} {w1 w : World} {l : Nat} (o : Obj) (h : Kd C w1 w) (hl : w1.heap.size ≤ l) : Kd C w1 (w.putObj l o) := fun k o' hk hc hm => by
  have : k ≠ l := fun e => by have := (Array.getElem?_eq_some_iff.1 hk).1; omega
  rw [World.putObj_heap_other this]; exact h k o' hk hc hm

theorem wp_rf {α σ τ : Type} {g : Operand} {pl : List Tmp} {assign body : Code} {gf : FuncId} {lb : List Value} {encs : α → List Value} {zs : List α} {Rq : World → Prop} {n : Nat} {C : Nat → Prop} {ds : List Nat}
    (hg : ev al g = some (.func (.func gf) #[] lb.toArray)) (hcb : Callable P gf) (hit : Iter P gf lb encs zs Rq) (hra : Rnd assign = true) (hrb : Rnd body = true) (hpl : pl.all (fun p => Nat.blt p n) = true) (hen : ∀ x, (encs x).length = pl.length)
    (Inv : Nat → σ → Prop) (G : Nat → σ → HL) (G0 : HL) (InvX : τ → Prop) (GX : τ → HL) (s0 : σ) (h0 : Inv 0 s0) (hh : SubH (G 0 s0) H) (hh0 : SubH G0 H)
    (hRq : ∀ k s W, Inv k s → Below B w0 W → Sat B W (G k s ++ G0) → B ≤ W.heap.size → Rq W)
    (hround : ∀ (k : Nat) (x : α) (s : σ) (B0 : Nat) (W : World), zs[k]? = some x → Inv k s → Below B w0 W → B ≤ W.heap.size → (∀ i e b, look H i = some e → e.own = some b → b < B0) → ∀ Ka : Act → World → Prop,
      (∀ al1 H1, (∀ (Wb : World) (R : Exit → Act → World → Prop), Below B w0 Wb → B ≤ Wb.heap.size →
          (∀ s' al2 H2, Inv (k + 1) s' → SubH (G (k + 1) s') H2 → SubH G0 H2 → QP ⟨n, fun j => C j ∧ j < B0, [], false⟩ B Wb R .normal al2 H2) →
          (∀ t al2 H2, InvX t → SubH (GX t) H2 → SubH G0 H2 → QP ⟨n, fun j => C j ∧ j < B0, [], false⟩ B Wb R .ret al2 H2) →
          WP P ⟨n, fun j => C j ∧ j < B0, [], false⟩ B Wb body R al1 H1) → KP ⟨n, fun j => C j ∧ j < B0, [], false⟩ B W Ka al1 H1) →
      WP P ⟨n, fun j => C j ∧ j < B0, [], false⟩ B W assign (Exit.then Ka (fun _ _ _ => False)) (alp pl (encs x) al) (G k s ++ G0))
    (hdone : ∀ s d, Inv zs.length s → QP ⟨n, C, d :: ds, false⟩ B w0 Q .normal al (G zs.length s ++ G0))
    (hstop : ∀ t d, InvX t → QP ⟨n, C, d :: ds, false⟩ B w0 Q .ret al (GX t ++ G0)) : WP P ⟨n, C, ds, false⟩ B w0 (.rangeFunc g pl.toArray assign body) Q al H := by
  intro a w hst
  refine (wpIn_wide (n := 1)).1 (wpIn_rangeFunc ?_)
  intro fn hfn
  obtain ⟨rec, hrec⟩ : ∃ rec : LoopState → Option Code → Loop, rec = fun st pe => { state := st, pending := pe, fn, tmps := a.tmps, params := pl.toArray, assign, body, defers := w.heap.size } := ⟨_, rfl⟩
  obtain ⟨W1, hW1⟩ : ∃ W1, (w.alloc (.deferred (some []))).alloc (.loop (rec .ready none)) = W1 := ⟨_, rfl⟩
  have hsz1 : W1.heap.size = w.heap.size + 2 := by rw [← hW1]; simp
  have hL1 : W1.heap[w.heap.size + 1]? = some (.loop (rec .ready none)) := by
    rw [← hW1]; have := World.alloc_heap_new (w.alloc (.deferred (some []))) (.loop (rec .ready none)); rwa [World.size_alloc] at this
  have hK1 : W1.heap[w.heap.size]? = some (.deferred (some [])) := by
    rw [← hW1]; exact (Below.heap_alloc _ _ _ (by simp)).trans (World.alloc_heap_new w _)
  have hold : ∀ k, k < w.heap.size → W1.heap[k]? = w.heap[k]? := fun k hk => by
    rw [← hW1]; exact (Below.heap_alloc _ _ _ (by simp; omega)).trans (Below.heap_alloc _ _ _ hk)
  have hb1 : Below B w0 W1 := by rw [← hW1]; exact (hst.below.alloc hst.base _).alloc (by have := hst.base; simp; omega) _
  have hB0 : ∀ i e b, look H i = some e → e.own = some b → b < w.heap.size := fun i e b hi hb => (Ent.own_lt (hst.sat.ok i e hi) hb).2
  have hBw := hst.base
  let base : World → Prop := fun W => Below B w0 W ∧ w.heap.size + 2 ≤ W.heap.size ∧ Kd C w W
  let J : Nat → World → Prop := fun k W => (∃ s, Inv k s ∧ base W ∧ Sat B W (G k s ++ G0)) ∧ W.heap[w.heap.size + 1]? = some (.loop (rec .ready none)) ∧ W.heap[w.heap.size]? = some (.deferred (some []))
  let Jx : World → Prop := fun W => (∃ t, InvX t ∧ base W ∧ Sat B W (GX t ++ G0)) ∧ W.heap[w.heap.size + 1]? = some (.loop (rec .done (some .ret))) ∧ W.heap[w.heap.size]? = some (.deferred (some []))
  obtain ⟨fnc, hf1, hf2, hf3⟩ := hcb
  have hcall : ∀ args W, (callFunc gf args).run P W = .ok (.enter gf args) W := fun args W => by
    have hn : ¬ (fnc.name = "runtime.NumGoroutine") := by simpa using hf2
    have hb : ¬ (fnc.body = none) := by intro e; rw [e] at hf3; simp at hf3
    simp [callFunc, program, Sem.run, hf1, hn, hb]
  refine ⟨w.heap.size + 1, [mkMark w.heap.size], W1, { target := .fn (.func gf) lb.toArray, args := #[.func (.yield (w.heap.size + 1)) #[] #[]] }, W1, gf, ([Value.func (.yield (w.heap.size + 1)) #[] #[]] ++ lb).toArray, W1, ?_, ?_, ?_, ?_, fun h => by simp [Fence.wide] at h, ?_⟩
  · rw [← hW1, hrec]; exact run_enterLoop_outer _ _ _ _ _
  · simp only [resolve, hst.regs.eval hg]
    simp [go_sem]
  · intro f' _; trivial
  · simp [invoke, go_sem, hcall]
  have hbase1 : base W1 := ⟨hb1, by omega, fun k o hk _ _ => (hold k (Array.getElem?_eq_some_iff.1 hk).1).trans hk⟩
  refine (hit (w.heap.size + 1) J Jx W1 ?_ ?_ ?_ ?_ ⟨⟨s0, h0, hbase1, (hst.sat.below' hold).sub (subH_app hh hh0)⟩, hL1, hK1⟩).mono ?_
  · rintro k W ⟨⟨s, hi, hb, hs⟩, _, _⟩
    exact hRq k s W hi hb.1 hs (by have := hb.2.1; omega)
  · rintro k W W' ⟨⟨s, hi, hb, hs⟩, hl, hd⟩ hbl
    have h1 : ∀ j, j < W.heap.size → W'.heap[j]? = W.heap[j]? := fun j hj => hbl.block j hj
    have h2 := hb.2.1
    have h3 := hbl.size
    exact ⟨⟨s, hi, ⟨hb.1.trans (hbl.mono (by omega)), by omega, hb.2.2.trans (Kd.of_below hbl)⟩, hs.below' h1⟩, (h1 _ (by omega)).trans hl, (h1 _ (by omega)).trans hd⟩
  · rintro W W' ⟨⟨s, hi, hb, hs⟩, hl, hd⟩ hbl
    have h1 : ∀ j, j < W.heap.size → W'.heap[j]? = W.heap[j]? := fun j hj => hbl.block j hj
    have h2 := hb.2.1
    have h3 := hbl.size
    exact ⟨⟨s, hi, ⟨hb.1.trans (hbl.mono (by omega)), by omega, hb.2.2.trans (Kd.of_below hbl)⟩, hs.below' h1⟩, (h1 _ (by omega)).trans hl, (h1 _ (by omega)).trans hd⟩
  · rintro k x W hx ⟨⟨s, hi, hb, hs⟩, hl, hd⟩
    have hsz := hb.2.1
    have hy := run_yield (P := P) (args := (encs x).toArray) hl (by rw [hrec]; simp [hen x])
    rw [hrec] at hy
    refine ⟨fn, _, assign, body, hy, roundIn_of_wpIn (n := 0) trivial (D.wpIn assign _ _ _ (fun _ _ h => h) hra (hround k x s w.heap.size W hx hi hb.1 (by omega) hB0 _ ?_ _ _ ⟨⟨rfl, ?_, ?_⟩, Below.refl _ _, hs, by omega, fun _ => Kd.refl _ _, MarkOk.nil _ _⟩))⟩
    · intro al1 H1 hbody a1 w1 hst1
      have hs1 := hst1.below.size
      have hl1 : w1.heap[w.heap.size + 1]? = some (.loop (rec .ready none)) := hst1.kd rfl _ _ hl rfl (fun _ => rfl)
      have hd1 : w1.heap[w.heap.size]? = some (.deferred (some [])) := hst1.kd rfl _ _ hd rfl (fun _ => rfl)
      obtain ⟨Wb, hWb⟩ : ∃ Wb, w1.putObj (w.heap.size + 1) (.loop (rec .busy none)) = Wb := ⟨_, rfl⟩
      have hbr : (Instr.beginRound (w.heap.size + 1)).run P w1 = .ok () Wb := by
        have := run_beginRound (P := P) hl1 (by rw [hrec])
        rw [this, ← hWb, hrec]
      have hszb : Wb.heap.size = w1.heap.size := by rw [← hWb]; simp
      have hlb : Wb.heap[w.heap.size + 1]? = some (.loop (rec .busy none)) := by rw [← hWb]; exact World.putObj_heap_same (by omega)
      have hdb : Wb.heap[w.heap.size]? = some (.deferred (some [])) := by rw [← hWb]; exact (World.putObj_heap_other (by omega)).trans hd1
      have hb0b : Below B w0 Wb := by rw [← hWb]; exact Below.putFix _ (hb.1.trans hst1.below) (by omega) (by omega)
      have hkb : Kd C w Wb := by rw [← hWb]; exact Kd.putFix _ (hb.2.2.trans ((hst1.kd rfl).imp fun _ h => h.1)) (by omega)
      -- what a round leaves
      have leave : ∀ (jump : Option Code) (al2 : AL) (H2 : HL) (a2 : Act) (w2 : World), St ⟨n, fun j => C j ∧ j < w.heap.size, [], false⟩ B Wb al2 H2 a2 w2 →
          ∃ w3, (Instr.endRound (w.heap.size + 1) jump).run P w2 = .ok (.bool jump.isNone) w3 ∧ base w3 ∧ Sat B w3 H2 ∧ w3.heap[w.heap.size + 1]? = some (.loop (rec (if jump.isNone then .ready else .done) jump)) ∧ w3.heap[w.heap.size]? = some (.deferred (some [])) := by
        intro jump al2 H2 a2 w2 h2
        have hl2 : w2.heap[w.heap.size + 1]? = some (.loop (rec .busy none)) := h2.kd rfl _ _ hlb rfl (fun _ => rfl)
        have hd2 : w2.heap[w.heap.size]? = some (.deferred (some [])) := h2.kd rfl _ _ hdb rfl (fun _ => rfl)
        have hs2 := h2.below.size
        refine ⟨_, ?_, ⟨Below.putFix (l := w.heap.size + 1) (.loop (rec (if jump.isNone then .ready else .done) jump)) (hb0b.trans h2.below) (by omega) (by omega), by simp; omega, Kd.putFix _ (hkb.trans ((h2.kd rfl).imp fun _ h => h.1)) (by omega)⟩, h2.sat.putFix hl2 rfl, World.putObj_heap_same (by omega), (World.putObj_heap_other (by omega)).trans hd2⟩
        have := run_endRound (P := P) jump hl2
        rw [this, hrec]
      refine ⟨Wb, hbr, D.wpIn body (roundPost P (w.heap.size + 1) _) _ _ (fun _ _ h => h) hrb (hbody Wb _ hb0b (by omega) ?_ ?_ _ _ ⟨hst1.regs, Below.refl _ _, ?_, by omega, fun _ => Kd.refl _ _, MarkOk.nil _ _⟩)⟩
      · intro s' al2 H2 hi2 hg2 hg0 a2 w2 h2
        obtain ⟨w3, q1, q2, q3, q4, q5⟩ := leave none al2 H2 a2 w2 h2
        exact ⟨_, w3, q1, .inl ⟨rfl, ⟨s', hi2, q2, q3.sub (subH_app hg2 hg0)⟩, q4, q5⟩⟩
      · intro t al2 H2 hi2 hg2 hg0 a2 w2 h2
        obtain ⟨w3, q1, q2, q3, q4, q5⟩ := leave (some .ret) al2 H2 a2 w2 h2
        exact ⟨_, w3, q1, .inr ⟨rfl, ⟨t, hi2, q2, q3.sub (subH_app hg2 hg0)⟩, q4, q5⟩⟩
      · rw [← hWb]; exact hst1.sat.putFix hl1 rfl
    · rw [zipfold, foldl_size]; exact hst.regs.size
    · intro m v hm
      rw [zipfold]
      exact alp_slot pl (encs x) al a.tmps (fun p hp => by have := List.all_eq_true.1 hpl p hp; rw [hst.regs.size]; simpa using this) hst.regs.slot m v hm
  · rintro e W2 ⟨⟨v, rfl⟩, hJ⟩
    have hfin : ∀ (st : LoopState) (pe : Option Code) (al' : AL) (H' : HL) , st ≠ .busy → base W2 → Sat B W2 H' → W2.heap[w.heap.size + 1]? = some (.loop (rec st pe)) → W2.heap[w.heap.size]? = some (.deferred (some [])) →
        ∃ w4, (Instr.endLoop (w.heap.size + 1)).run P W2 = .ok pe w4 ∧ St ⟨n, C, w.heap.size :: ds, false⟩ B w0 al H' { a with defers := [mkMark w.heap.size] ++ a.defers } w4 := by
      intro st pe al' H' hne hb hs hl hd
      have hrun := run_endLoop (P := P) hl (by rw [hrec]; exact hne)
      have h2 := hb.2.1
      refine ⟨_, by rw [hrun, hrec], ⟨⟨?_, hst.regs.size, hst.regs.slot⟩, Below.putFix _ hb.1 (by omega) (by omega), hs.putFix hl rfl, by simp; omega, fun hy => Kd.putFix _ ((hst.kd rfl).trans hb.2.2) (by have := hst.below.size; omega), ?_⟩⟩
      · simp [hst.regs.defers]
      · refine ⟨List.nodup_cons.2 ⟨fun hm => ?_, hst.marks.1⟩, fun d hdm => ?_⟩
        · have := (Array.getElem?_eq_some_iff.1 (hst.marks.2 _ hm).2).1; omega
        · rcases List.mem_cons.1 hdm with rfl | hdm
          · exact ⟨hst.below.size, (World.putObj_heap_other (by omega)).trans hd⟩
          · have h3 := hst.marks.2 d hdm
            have h4 := (Array.getElem?_eq_some_iff.1 h3.2).1
            exact ⟨h3.1, (World.putObj_heap_other (by omega)).trans (hb.2.2 d _ h3.2 rfl (fun _ => rfl))⟩
    rcases hJ with ⟨⟨s, hi, hb, hs⟩, hl, hd⟩ | ⟨⟨t, hi, hb, hs⟩, hl, hd⟩
    · obtain ⟨w4, q1, q2⟩ := hfin .ready none al _ (by simp) hb hs hl hd
      exact ⟨none, w4, q1, hdone s w.heap.size hi _ _ q2⟩
    · obtain ⟨w4, q1, q2⟩ := hfin .done (some .ret) al _ (by simp) hb hs hl hd
      exact ⟨some .ret, w4, q1, wpIn_ret (hstop t w.heap.size hi _ _ q2)⟩
end
end Go.Proofs.Ytogcclagmobkiaa.Hx
