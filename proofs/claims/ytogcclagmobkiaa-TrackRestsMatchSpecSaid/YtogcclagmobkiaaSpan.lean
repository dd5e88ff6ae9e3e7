/-
  Spans: deleting.
-/
import Derived.Test.YtogcclagmobkiaaRestM
import Derived.Test.YtogcclagmobkiaaIndexFn
import Derived.Test.YtogcclagmobkiaaHc
import Derived.Test.YtogcclagmobkiaaHq
import Derived.Test.YtogcclagmobkiaaEncAct
namespace Go.Proofs.Ytogcclagmobkiaa
open Go Go.RowKit Hx
set_option linter.unusedVariables false
set_option linter.unusedSimpArgs false
set_option maxRecDepth 8000
def encSpan : Enc SpanR := { size := 2, cells := fun x => [.int .i64 x.from_, .int .i64 x.to], val := fun x => .agg #[.int .i64 x.from_, .int .i64 x.to], len := fun _ => rfl, ones := fun _ u h => (by simp at h; rcases h with h | h <;> subst h <;> rfl), pos := by decide, vc := fun _ => rfl }
def mk_encSpan (a b : Int) : SpanR := ⟨a, b⟩
theorem ty54 : Ty Try.prog 54 encSpan := .inr ⟨ag54, fun _ => rfl⟩
theorem equal_span_same (a b : Option Addr) (n c1 c2 : Nat) (xs : List SpanR) (w : World) (hx : Rd encSpan w.heap.size w a n c1 xs) (hy : Rd encSpan w.heap.size w b n c2 xs) :
    Calls Try.prog 33 #[.slice a n c1, .slice b n c2] w fun e w' => e = .returned (.bool true) ∧ Below w.heap.size w w' := by
  have hn := hx.len
  have hf := hx.fit
  refine enterQ (N := 26) (C := fun _ => True) (H := []) (B := w.heap.size) (args := [_, _]) Try.func33 rfl rfl rfl (Nat.le_refl _) (Sat.nil _ _) fun Q hQ => ?_
  refine wp_seq' fun K1 hK1 => ?_
  refine wp_reg ?_
  refine ol_r (r_assign rfl) rfl ?_
  refine ol_nil (to_k0 (fun _ _ h => h) (hK1 _ _ _ _ _ ?_))
  clear hK1
  refine wp_seq' fun K2 hK2 => ?_
  refine wp_seq' fun K3 hK3 => ?_
  refine wp_reg ?_
  refine ol_r (r_move rfl) rfl ?_
  refine ol_r (r_len rfl sl46) rfl ?_
  refine ol_r (r_move rfl) rfl ?_
  refine ol_r (r_len rfl sl46) rfl ?_
  refine ol_r (r_neq rfl rfl) rfl ?_
  refine ol_nil (to_k0 (fun _ _ h => h) (hK3 _ _ _ _ _ ?_))
  clear hK3
  first | refine wp_condD rfl (fun hc10 => ?_) (fun hc10 => ?_) | refine wp_condN rfl (fun hc10 => ?_) (fun hc10 => ?_) | refine wp_condNB rfl (fun hc10 => ?_) (fun hc10 => ?_) | refine wp_cond' rfl (fun hc10 => ?_) (fun hc10 => ?_)
  ·refine wp_seq' fun K4 hK4 => ?_
   refine wp_reg ?_
   refine ol_r (r_assign rfl) rfl ?_
   refine ol_nil (to_k0 (fun _ _ h => h) (hK4 _ _ _ _ _ ?_))
   clear hK4
   refine hQ.ret (rvs1 (rv_t rfl)) (fun _ _ h => h) fun w hb hs hB hkd => ?_
   first
     | exact ⟨rfl, hb⟩
     | (exfalso; simp_all; done)
     | (exfalso; simp_all [eqs, eqV, encSpan]; done)
  ·refine wp_skip' (to_k0 (fun _ _ h => h) (hK2 _ _ _ _ _ ?_))
   clear hK2
   refine wp_seq' fun K5 hK5 => ?_
   refine wp_seq' fun K6 hK6 => ?_
   refine wp_reg ?_
   refine ol_r (r_move rfl) rfl ?_
   refine ol_r (r_len rfl sl46) rfl ?_
   refine ol_r (r_move rfl) rfl ?_
   refine ol_nil (to_k0 (fun _ _ h => h) (hK6 _ _ _ _ _ ?_))
   clear hK6
   refine wp_block' ?_
   apply wp_loopM (σ := Nat) (fun s => s ≤ n) (fun s => [(13, .int .i64 s)]) [(0, _), (1, _), (12, _)] (fun s => []) [] (fun s => n - s) (0)
   ·try dsimp only
    simp
   ·exact (sub_cons rfl sub_nil)
   ·exact (sub_cons rfl (sub_cons rfl (sub_cons rfl sub_nil)))
   ·exact subH_nil
   ·exact subH_nil
   ·intro k hk
    intro K7 hK7
    refine wp_seq' fun K8 hK8 => ?_
    refine wp_reg ?_
    refine ol_r (r_lss rfl rfl) rfl ?_
    refine ol_nil (to_k0 (fun _ _ h => h) (hK8 _ _ _ _ _ ?_))
    clear hK8
    refine wp_seq' fun K9 hK9 => ?_
    first | refine wp_condD rfl (fun hc14 => ?_) (fun hc14 => ?_) | refine wp_condN rfl (fun hc14 => ?_) (fun hc14 => ?_) | refine wp_condNB rfl (fun hc14 => ?_) (fun hc14 => ?_) | refine wp_cond' rfl (fun hc14 => ?_) (fun hc14 => ?_)
    ·refine wp_skip' (to_k0 (fun _ _ h => h) (hK9 _ _ _ _ _ ?_))
     clear hK9
     refine wp_seq' fun K10 hK10 => ?_
     refine wp_block' ?_
     refine wp_seq' fun K11 hK11 => ?_
     refine wp_reg ?_
     refine ol_r (r_move rfl) rfl ?_
     refine ol_r (r_assign rfl) rfl ?_
     refine ol_nil (to_k0 (fun _ _ h => h) (hK11 _ _ _ _ _ ?_))
     clear hK11
     refine wp_seq' fun K12 hK12 => ?_
     refine wp_regq (by kernel_rfl) (by kernel_rfl) ?_
     refine ql_r (r_move rfl) rfl ?_
     refine ql_r (r_move rfl) rfl ?_
     refine ql_ixr hx rfl rfl sl46 (by omega) rfl fun x18 hx18 => ?_
     try simp only [Int.toNat_natCast] at hx18
     refine ql_r (r_ldw rfl (fun w1 hb1 hs1 hB1 => Rd.loads hx ty54 hx18 hb1)) rfl ?_
     refine ql_r (r_move rfl) rfl ?_
     refine ql_r (r_move rfl) rfl ?_
     refine ql_ixr hy rfl rfl sl46 (by omega) rfl fun x22 hx22 => ?_
     try simp only [Int.toNat_natCast] at hx22
     have h22 : x22 = x18 := by rw [hx18] at hx22; cases hx22; rfl
     subst h22
     refine ql_r (r_ldw rfl (fun w1 hb1 hs1 hB1 => Rd.loads hy ty54 hx22 hb1)) rfl ?_
     refine ql_r (r_nes rfl rfl (by kernel_rfl) (fun w => run_eqs (by kernel_rfl) (by kernel_rfl) w)) rfl ?_
     refine ql_nil (to_k0 (fun _ _ h => h) (hK12 _ _ _ _ _ ?_))
     clear hK12
     first | refine wp_condD rfl (fun hc24 => ?_) (fun hc24 => ?_) | refine wp_condN rfl (fun hc24 => ?_) (fun hc24 => ?_) | refine wp_condNB rfl (fun hc24 => ?_) (fun hc24 => ?_) | refine wp_cond' rfl (fun hc24 => ?_) (fun hc24 => ?_)
     ·refine wp_seq' fun K13 hK13 => ?_
      refine wp_reg ?_
      refine ol_r (r_assign rfl) rfl ?_
      refine ol_nil (to_k0 (fun _ _ h => h) (hK13 _ _ _ _ _ ?_))
      clear hK13
      refine hQ.ret (rvs1 (rv_t rfl)) (fun _ _ h => h) fun w hb hs hB hkd => ?_
      first
        | exact ⟨rfl, hb⟩
        | (exfalso; simp_all; done)
        | (exfalso; simp_all [eqs, eqV, encSpan]; done)
     ·refine wp_skip' (to_k0 (fun _ _ h => h) (hK10 _ _ _ _ _ ?_))
      clear hK10
      refine wp_reg ?_
      refine ol_r (r_add rfl rfl (by omega)) rfl ?_
      refine ol_r (r_move rfl) rfl ?_
      refine ol_nil (to_k0 (fun _ _ h => h) (hK7 (k + 1) _ _ ?_ ?_ (sub_cons rfl sub_nil) (sub_cons rfl (sub_cons rfl (sub_cons rfl sub_nil))) (by exact subH_nil) subH_nil))
      ·try dsimp only
       omega
      ·try dsimp only
       omega
    ·refine wp_exit' (to_k0 (fun _ _ h => h) (hK5 _ _ _ _ _ ?_))
     clear hK5
     refine wp_seq' fun K14 hK14 => ?_
     refine wp_reg ?_
     refine ol_r (r_assign rfl) rfl ?_
     refine ol_nil (to_k0 (fun _ _ h => h) (hK14 _ _ _ _ _ ?_))
     clear hK14
     refine hQ.ret (rvs1 (rv_t rfl)) (fun _ _ h => h) fun w hb hs hB hkd => ?_
     first
       | exact ⟨rfl, hb⟩
       | (exfalso; simp_all; done)
       | (exfalso; simp_all [eqs, eqV, encSpan]; done)
theorem indexFunc_span (a : Option Addr) (n c1 : Nat) (xs : List SpanR) (g bb : Nat) (v : Int) (p : SpanR → Bool) (w : World) (hx : Rd encSpan w.heap.size w a n c1 xs) (hk : Blk w.heap.size w bb [(0, .int .i64 v)]) (hg : Callable Try.prog g)
    (hf : ∀ x w', x ∈ xs → Blk w'.heap.size w' bb [(0, .int .i64 v)] → Calls Try.prog g ([encSpan.val x] ++ [Value.pointer (some ⟨bb, 0, none⟩)]).toArray w' fun e w2 => e = .returned (.bool (p x)) ∧ Below w'.heap.size w' w2) :
    Calls Try.prog 173 #[.slice a n c1, .func (.func g) #[] #[.pointer (some ⟨bb, 0, none⟩)]] w fun e w' => e = .returned (.int .i64 (idxP p xs)) ∧ Below w.heap.size w w' := by
  have hl := hx.len
  have hfit := hx.fit
  subst hl
  refine enterQ (N := 19) (C := fun _ => True) (H := []) (B := w.heap.size) (args := [_, _]) Try.func173 rfl rfl rfl (Nat.le_refl _) (Sat.nil _ _) fun Q hQ => ?_
  refine wp_seq' fun K1 hK1 => ?_
  refine wp_reg ?_
  refine ol_r (r_assign rfl) rfl ?_
  refine ol_nil (to_k0 (fun _ _ h => h) (hK1 _ _ _ _ _ ?_))
  clear hK1
  refine wp_seq' fun K2 hK2 => ?_
  refine wp_seq' fun K3 hK3 => ?_
  refine wp_reg ?_
  refine ol_r (r_move rfl) rfl ?_
  refine ol_r (r_len rfl sl46) rfl ?_
  refine ol_r (r_move rfl) rfl ?_
  refine ol_nil (to_k0 (fun _ _ h => h) (hK3 _ _ _ _ _ ?_))
  clear hK3
  refine wp_block' ?_
  apply wp_loopM (σ := Nat) (fun s => s ≤ xs.length ∧ ∀ y ∈ xs.take s, p y = false) (fun s => [(8, .int .i64 s)]) [(0, _), (1, _), (7, _)] (fun s => []) [] (fun s => xs.length - s) (0)
  ·try dsimp only
   simp
  ·exact (sub_cons rfl sub_nil)
  ·exact (sub_cons rfl (sub_cons rfl (sub_cons rfl sub_nil)))
  ·exact subH_nil
  ·exact subH_nil
  ·rintro k ⟨hk2, hP⟩
   intro K4 hK4
   refine wp_seq' fun K5 hK5 => ?_
   refine wp_reg ?_
   refine ol_r (r_lss rfl rfl) rfl ?_
   refine ol_nil (to_k0 (fun _ _ h => h) (hK5 _ _ _ _ _ ?_))
   clear hK5
   refine wp_seq' fun K6 hK6 => ?_
   first | refine wp_condD rfl (fun hc9 => ?_) (fun hc9 => ?_) | refine wp_condN rfl (fun hc9 => ?_) (fun hc9 => ?_) | refine wp_condNB rfl (fun hc9 => ?_) (fun hc9 => ?_) | refine wp_cond' rfl (fun hc9 => ?_) (fun hc9 => ?_)
   ·refine wp_skip' (to_k0 (fun _ _ h => h) (hK6 _ _ _ _ _ ?_))
    clear hK6
    refine wp_seq' fun K7 hK7 => ?_
    refine wp_block' ?_
    refine wp_seq' fun K8 hK8 => ?_
    refine wp_reg ?_
    refine ol_r (r_move rfl) rfl ?_
    refine ol_r (r_assign rfl) rfl ?_
    refine ol_nil (to_k0 (fun _ _ h => h) (hK8 _ _ _ _ _ ?_))
    clear hK8
    refine wp_seq' fun K9 hK9 => ?_
    refine wp_reg ?_
    refine ol_r (r_move rfl) rfl ?_
    refine ol_r (r_move rfl) rfl ?_
    refine ol_r (r_move rfl) rfl ?_
    refine ol_ixr hx rfl rfl sl46 (by omega) rfl fun x14 hx14 => ?_
    try simp only [Int.toNat_natCast] at hx14
    refine ol_r (r_ldw rfl (fun w1 hb1 hs1 hB1 => Rd.loads hx ty54 hx14 hb1)) rfl ?_
    refine ol_call (cv := [Value.pointer (some ⟨bb, 0, none⟩)]) rfl rfl hg rfl (fun w1 hb1 hs1 hB1 => Calls.mono (hf _ _ (List.mem_of_getElem? hx14) (hk.at hb1 hB1)) ?_)
    rintro e w2 ⟨rfl, hb2⟩
    refine After.below rfl hb1 hs1 hB1 hb2 ?_
    clear hb2 hB1 hs1 hb1 w2 w1
    refine ol_nil (to_k0 (fun _ _ h => h) (hK9 _ _ _ _ _ ?_))
    clear hK9
    first | refine wp_condD rfl (fun hc16 => ?_) (fun hc16 => ?_) | refine wp_condN rfl (fun hc16 => ?_) (fun hc16 => ?_) | refine wp_condNB rfl (fun hc16 => ?_) (fun hc16 => ?_) | refine wp_cond' rfl (fun hc16 => ?_) (fun hc16 => ?_)
    ·refine wp_seq' fun K10 hK10 => ?_
     refine wp_reg ?_
     refine ol_r (r_move rfl) rfl ?_
     refine ol_r (r_assign rfl) rfl ?_
     refine ol_nil (to_k0 (fun _ _ h => h) (hK10 _ _ _ _ _ ?_))
     clear hK10
     refine hQ.ret (rvs1 (rv_t rfl)) (fun _ _ h => h) fun w hb hs hB hkd => ?_
     exact ⟨by rw [idxP_at hx14 hc16 hP], hb⟩
    ·refine wp_skip' (to_k0 (fun _ _ h => h) (hK7 _ _ _ _ _ ?_))
     clear hK7
     refine wp_reg ?_
     refine ol_r (r_add rfl rfl (by omega)) rfl ?_
     refine ol_r (r_move rfl) rfl ?_
     refine ol_nil (to_k0 (fun _ _ h => h) (hK4 (k + 1) _ _ ?_ ?_ (sub_cons rfl sub_nil) (sub_cons rfl (sub_cons rfl (sub_cons rfl sub_nil))) (by exact subH_nil) subH_nil))
     ·try dsimp only
      refine ⟨by omega, fun y hy => ?_⟩
      rw [take_succ_get hx14] at hy
      rcases List.mem_append.1 hy with h | h
      · exact hP y h
      · simp at h; subst h; exact hc16
     ·try dsimp only
      omega
   ·refine wp_exit' (to_k0 (fun _ _ h => h) (hK2 _ _ _ _ _ ?_))
    clear hK2
    refine wp_seq' fun K11 hK11 => ?_
    refine wp_reg ?_
    refine ol_r (r_assign rfl) rfl ?_
    refine ol_nil (to_k0 (fun _ _ h => h) (hK11 _ _ _ _ _ ?_))
    clear hK11
    refine hQ.ret (rvs1 (rv_t rfl)) (fun _ _ h => h) fun w hb hs hB hkd => ?_
    rw [List.take_of_length_le (by omega)] at hP
    exact ⟨by rw [idxP_no hP], hb⟩
theorem idxP_cases {α : Type} (p : α → Bool) (xs : List α) : (idxP p xs = -1 ∧ ∀ y ∈ xs, p y = false) ∨ ∃ k x, idxP p xs = ((k : Nat) : Int) ∧ xs[k]? = some x ∧ p x = true ∧ ∀ y ∈ xs.take k, p y = false := by
  unfold idxP
  cases h : xs.findIdx? p with
  | none => exact .inl ⟨rfl, fun y hy => by simpa using List.findIdx?_eq_none_iff.1 h y hy⟩
  | some k =>
    rw [List.findIdx?_eq_some_iff_getElem] at h
    obtain ⟨hk, hp, hno⟩ := h
    refine .inr ⟨k, xs[k], rfl, by simp, hp, fun y hy => ?_⟩
    obtain ⟨j, hj⟩ := List.mem_iff_getElem?.1 hy
    have hjl := (List.getElem?_eq_some_iff.1 hj).1
    rw [List.length_take] at hjl
    rw [List.getElem?_take, if_pos (by omega)] at hj
    obtain ⟨h1, rfl⟩ := List.getElem?_eq_some_iff.1 hj
    simpa using hno j (by omega)
theorem filter_none {α : Type} {p : α → Bool} {l : List α} (h : ∀ y ∈ l, p y = false) : (l.filter fun x => !p x) = l := List.filter_eq_self.2 fun y hy => by rw [h y hy]; rfl
theorem filter_len {α : Type} (p : α → Bool) (l : List α) (k : Nat) : ((l.take k).filter fun x => !p x).length ≤ k := Nat.le_trans (List.length_filter_le _ _) (by rw [List.length_take]; omega)
/-- The row while it is being closed up. -/
structure DelI (p : SpanR → Bool) (xs ys : List SpanR) (i j : Nat) : Prop where
  len : ys.length = xs.length
  lt : i < j
  le : j ≤ xs.length
  done : ys.take i = (xs.take j).filter fun x => !p x
  rest : ∀ t, j ≤ t → ys[t]? = xs[t]?
theorem DelI.i {p : SpanR → Bool} {xs ys : List SpanR} {i j : Nat} (h : DelI p xs ys i j) : ((xs.take j).filter fun x => !p x).length = i := by
  rw [← h.done, List.length_take]
  have := h.len; have := h.lt; have := h.le
  omega
theorem DelI.start {p : SpanR → Bool} {xs : List SpanR} {k : Nat} {x : SpanR} (hx : xs[k]? = some x) (hp : p x = true) (hno : ∀ y ∈ xs.take k, p y = false) : DelI p xs xs k (k + 1) := by
  have hl := (List.getElem?_eq_some_iff.1 hx).1
  refine ⟨rfl, Nat.lt_succ_self _, hl, ?_, fun t _ => rfl⟩
  rw [take_succ_get hx, List.filter_append, filter_none hno]
  simp [hp]
theorem DelI.put {p : SpanR → Bool} {xs ys : List SpanR} {i j : Nat} {x y : SpanR} (h : DelI p xs ys i j) (hx : ys[j]? = some x) (hp : p x = false) : DelI p xs (ys.set i x) (i + 1) (j + 1) := by
  have hxx : xs[j]? = some x := by rw [← h.rest j (Nat.le_refl _)]; exact hx
  have hl := (List.getElem?_eq_some_iff.1 hxx).1
  have h1 := h.len
  have h2 := h.lt
  refine ⟨by rw [List.length_set]; exact h1, by omega, hl, ?_, fun t ht => ?_⟩
  · rw [take_succ_get hxx, List.filter_append, ← h.done]
    have : (ys.set i x)[i]? = some x := List.getElem?_set_self (by omega)
    rw [take_succ_get this, List.take_set_of_le (Nat.le_refl i)]
    simp [hp]
  · rw [List.getElem?_set_ne (by omega)]; exact h.rest t (by omega)
theorem DelI.skip {p : SpanR → Bool} {xs ys : List SpanR} {i j : Nat} {x : SpanR} (h : DelI p xs ys i j) (hx : ys[j]? = some x) (hp : p x = true) : DelI p xs ys i (j + 1) := by
  have hxx : xs[j]? = some x := by rw [← h.rest j (Nat.le_refl _)]; exact hx
  have hl := (List.getElem?_eq_some_iff.1 hxx).1
  have h2 := h.lt
  refine ⟨h.len, by omega, hl, ?_, fun t ht => h.rest t (by omega)⟩
  rw [take_succ_get hxx, List.filter_append, ← h.done]
  simp [hp]
theorem own_cap {B n c size : Nat} {w : World} {a : Option Addr} {vs : List Value} {e : TypeId} (h : w.ownsRow B e size (.slice a n c) n vs) : n ≤ c := by
  rcases h.2 with ⟨h3, h4⟩ | ⟨g, cap', cur, hv, hb, hg, hnc, hcm, hcs, htake⟩
  · omega
  · cases hv; exact hnc
theorem deleteFunc_span (B : Nat) (a : Option Addr) (n c : Nat) (xs : List SpanR) (g bb : Nat) (v : Int) (TB : TypeId) (p : SpanR → Bool) (e1 e2 e3 e4 : Ent) (w : World) (hlen : xs.length = n) (hB : B ≤ w.heap.size) (hg : Callable Try.prog g)
    (hf : ∀ x w', x ∈ xs → Blk w'.heap.size w' bb [(0, .int .i64 v)] → Calls Try.prog g ([encSpan.val x] ++ [Value.pointer (some ⟨bb, 0, none⟩)]).toArray w' fun e w2 => e = .returned (.bool (p x)) ∧ Below w'.heap.size w' w2)
    (hs : Sat B w [(900, .row a n c (encSpan.enc xs) 54 2), (901, .blk bb [(0, .int .i64 v)] TB), (902, e1), (903, e2), (904, e3), (905, e4)]) :
    Calls Try.prog 137 #[.slice a n c, .func (.func g) #[] #[.pointer (some ⟨bb, 0, none⟩)]] w fun e w' => e = .returned (.slice a (xs.filter fun x => !p x).length c) ∧ Below B w w' ∧ Sat B w' [(900, .row a (xs.filter fun x => !p x).length c (encSpan.enc (xs.filter fun x => !p x)) 54 2), (901, .blk bb [(0, .int .i64 v)] TB), (902, e1), (903, e2), (904, e3), (905, e4)] ∧ B ≤ w'.heap.size ∧ Kd (fun _ => False) w w' := by
  have hfit := (hs.rd (E := encSpan) (id := 900) rfl rfl).fit
  have hcap : n ≤ c := own_cap (hs.ok 900 _ rfl)
  subst hlen
  refine enterQ (N := 42) (C := fun _ => False) (H := [(900, .row a xs.length c (encSpan.enc xs) 54 2), (901, .blk bb [(0, .int .i64 v)] TB), (902, e1), (903, e2), (904, e3), (905, e4)]) (B := B) (args := [_, _]) Try.func137 rfl rfl rfl (hB) (hs) fun Q hQ => ?_
  refine wp_seq' fun K1 hK1 => ?_
  refine wp_reg ?_
  refine ol_r (r_assign rfl) rfl ?_
  refine ol_nil (to_k0 (fun _ _ h => h) (hK1 _ _ _ _ _ ?_))
  clear hK1
  refine wp_seq' fun K2 hK2 => ?_
  refine wp_reg ?_
  refine ol_r (r_move rfl) rfl ?_
  refine ol_r (r_move rfl) rfl ?_
  refine ol_call rfl rfl cb173 rfl (fun w1 hb1 hs1 hB1 => Calls.mono (indexFunc_span _ _ _ xs g bb v p _ (hs1.rd (id := 900) rfl rfl) (hs1.blk (id := 901) rfl) hg hf) ?_)
  rintro e w2 ⟨rfl, hb2⟩
  refine After.below rfl hb1 hs1 hB1 hb2 ?_
  clear hb2 hB1 hs1 hb1 w2 w1
  refine ol_r (r_assign rfl) rfl ?_
  refine ol_nil (to_k0 (fun _ _ h => h) (hK2 _ _ _ _ _ ?_))
  clear hK2
  refine wp_seq' fun K3 hK3 => ?_
  refine wp_seq' fun K4 hK4 => ?_
  refine wp_reg ?_
  refine ol_r (r_move rfl) rfl ?_
  refine ol_r (r_eql rfl rfl) rfl ?_
  refine ol_nil (to_k0 (fun _ _ h => h) (hK4 _ _ _ _ _ ?_))
  clear hK4
  first | refine wp_condD rfl (fun hc12 => ?_) (fun hc12 => ?_) | refine wp_condN rfl (fun hc12 => ?_) (fun hc12 => ?_) | refine wp_condNB rfl (fun hc12 => ?_) (fun hc12 => ?_) | refine wp_cond' rfl (fun hc12 => ?_) (fun hc12 => ?_)
  ·refine wp_seq' fun K5 hK5 => ?_
   refine wp_reg ?_
   refine ol_r (r_move rfl) rfl ?_
   refine ol_r (r_assign rfl) rfl ?_
   refine ol_nil (to_k0 (fun _ _ h => h) (hK5 _ _ _ _ _ ?_))
   clear hK5
   refine hQ.ret (rvs1 (rv_t rfl)) (fun _ _ h => h) fun w hb hs hB hkd => ?_
   have hno : ∀ y ∈ xs, p y = false := by
     rcases idxP_cases p xs with h | ⟨k, x, h, _⟩
     · exact h.2
     · rw [h] at hc12; omega
   rw [filter_none hno]
   exact ⟨rfl, hb, hs.sub (subH_same rfl (subH_same rfl (subH_same rfl (subH_same rfl (subH_same rfl (subH_same rfl subH_nil)))))), hB, hkd⟩
  ·refine wp_skip' (to_k0 (fun _ _ h => h) (hK3 _ _ _ _ _ ?_))
   clear hK3
   refine wp_seq' fun K6 hK6 => ?_
   refine wp_seq' fun K7 hK7 => ?_
   refine wp_reg ?_
   obtain ⟨k0, x0, hk0, hx0, hp0, hno0⟩ : ∃ k x, idxP p xs = ((k : Nat) : Int) ∧ xs[k]? = some x ∧ p x = true ∧ ∀ y ∈ xs.take k, p y = false := by
     rcases idxP_cases p xs with h | h
     · exact absurd h.1 hc12
     · exact h
   have hk0l := (List.getElem?_eq_some_iff.1 hx0).1
   rw [hk0]
   refine ol_r (r_move rfl) rfl ?_
   refine ol_r (r_add rfl rfl (by omega)) rfl ?_
   refine ol_r (r_assign rfl) rfl ?_
   refine ol_nil (to_k0 (fun _ _ h => h) (hK7 _ _ _ _ _ ?_))
   clear hK7
   refine wp_block' ?_
   apply wp_loopM (σ := Nat × Nat × List SpanR) (fun s => DelI p xs s.2.2 s.1 s.2.1) (fun s => [(5, .int .i64 s.1), (6, .int .i64 s.2.1)]) [(0, _), (1, _), (4, _)] (fun s => [(900, .row a xs.length c (encSpan.enc s.2.2) 54 2)]) [(901, _), (902, _), (903, _), (904, _), (905, _)] (fun s => xs.length - s.2.1) ((k0, k0 + 1, xs))
   ·try dsimp only
    exact DelI.start hx0 hp0 hno0
   ·exact (sub_cons rfl (sub_cons rfl sub_nil))
   ·exact (sub_cons rfl (sub_cons rfl (sub_cons rfl sub_nil)))
   ·exact (subH_row rfl (by first | (dsimp only; rfl; done) | (rfl; done) | (dsimp only; done)) subH_nil)
   ·exact (subH_same rfl (subH_same rfl (subH_same rfl (subH_same rfl (subH_same rfl subH_nil)))))
   ·rintro ⟨i, j, ys⟩ hD
    dsimp only at hD ⊢
    have hDl := hD.len
    have hDi := hD.lt
    have hDj := hD.le
    intro K8 hK8
    refine wp_seq' fun K9 hK9 => ?_
    refine wp_seq' fun K10 hK10 => ?_
    refine wp_reg ?_
    refine ol_r (r_move rfl) rfl ?_
    refine ol_r (r_move rfl) rfl ?_
    refine ol_r (r_len rfl sl46) rfl ?_
    refine ol_r (r_lss rfl rfl) rfl ?_
    refine ol_nil (to_k0 (fun _ _ h => h) (hK10 _ _ _ _ _ ?_))
    clear hK10
    first | refine wp_condD rfl (fun hc19 => ?_) (fun hc19 => ?_) | refine wp_condN rfl (fun hc19 => ?_) (fun hc19 => ?_) | refine wp_condNB rfl (fun hc19 => ?_) (fun hc19 => ?_) | refine wp_cond' rfl (fun hc19 => ?_) (fun hc19 => ?_)
    ·refine wp_skip' (to_k0 (fun _ _ h => h) (hK9 _ _ _ _ _ ?_))
     clear hK9
     refine wp_seq' fun K11 hK11 => ?_
     refine wp_block' ?_
     refine wp_seq' fun K12 hK12 => ?_
     refine wp_reg ?_
     refine ol_r (r_move rfl) rfl ?_
     refine ol_r (r_move rfl) rfl ?_
     refine ol_ixo (id := 900) encSpan _ rfl rfl rfl rfl sl46 (by omega) rfl fun x24 hx24 => ?_
     try simp only [Int.toNat_natCast] at hx24
     try simp only [Int.toNat_natCast] at hx24
     refine ol_r (r_ldw rfl (fun w1 hb1 hs1 hB1 => ld_own (id := 900) hs1 rfl rfl ty54 hx24)) rfl ?_
     refine ol_alloc 7 z54 rfl fun b7 => ?_
     refine ol_store (id := 7) rfl rfl rfl rfl sz54 rfl rfl (by first | decide | exact Nat.zero_lt_succ _ | simp) ?_
     refine ol_nil (to_k0 (fun _ _ h => h) (hK12 _ _ _ _ _ ?_))
     clear hK12
     refine wp_seq' fun K13 hK13 => ?_
     refine wp_reg ?_
     refine ol_r (r_move rfl) rfl ?_
     refine ol_r (r_lda (id := 7) (n := 2) rfl rfl rfl ag54) rfl ?_
     refine ol_call (cv := [Value.pointer (some ⟨bb, 0, none⟩)]) rfl rfl hg rfl (fun w1 hb1 hs1 hB1 => Calls.mono (hf x24 _ (List.mem_of_getElem? ((hD.rest j (Nat.le_refl _)).symm.trans hx24)) (hs1.blk (id := 901) rfl)) ?_)
     rintro e w2 ⟨rfl, hb2⟩
     refine After.below rfl hb1 hs1 hB1 hb2 ?_
     clear hb2 hB1 hs1 hb1 w2 w1
     refine ol_r (r_not rfl) rfl ?_
     refine ol_nil (to_k0 (fun _ _ h => h) (hK13 _ _ _ _ _ ?_))
     clear hK13
     first | refine wp_condD rfl (fun hc29 => ?_) (fun hc29 => ?_) | refine wp_condN rfl (fun hc29 => ?_) (fun hc29 => ?_) | refine wp_condNB rfl (fun hc29 => ?_) (fun hc29 => ?_) | refine wp_cond' rfl (fun hc29 => ?_) (fun hc29 => ?_)
     ·refine wp_seq' fun K14 hK14 => ?_
      refine wp_reg ?_
      refine ol_r (r_move rfl) rfl ?_
      refine ol_r (r_move rfl) rfl ?_
      refine ol_r (r_lda (id := 7) (n := 2) rfl rfl rfl ag54) rfl ?_
      refine ol_ixo (id := 900) encSpan _ rfl rfl rfl rfl sl46 (by omega) rfl fun x33 hx33 => ?_
      try simp only [Int.toNat_natCast] at hx33
      try simp only [Int.toNat_natCast] at hx33
      refine ol_storeRow (id := 900) _ _ _ rfl rfl rfl rfl sz54 (by omega) ?_
      refine ol_nil (to_k0 (fun _ _ h => h) (hK14 _ _ _ _ _ ?_))
      clear hK14
      refine wp_reg ?_
      refine ol_r (r_move rfl) rfl ?_
      refine ol_r (r_add rfl rfl (by omega)) rfl ?_
      refine ol_r (r_assign rfl) rfl ?_
      refine ol_nil (to_k0 (fun _ _ h => h) (hK11 _ _ _ _ _ ?_))
      clear hK11
      refine wp_reg ?_
      refine ol_r (r_move rfl) rfl ?_
      refine ol_r (r_add rfl rfl (by omega)) rfl ?_
      refine ol_r (r_assign rfl) rfl ?_
      refine ol_nil (to_k0 (fun _ _ h => h) (hK8 ((i + 1, j + 1, ys.set i x24)) _ _ ?_ ?_ (sub_cons rfl (sub_cons rfl sub_nil)) (sub_cons rfl (sub_cons rfl (sub_cons rfl sub_nil))) (by exact (subH_row rfl (by first | (dsimp only; rfl; done) | (rfl; done) | (dsimp only; done)) subH_nil)) (subH_same rfl (subH_same rfl (subH_same rfl (subH_same rfl (subH_same rfl subH_nil)))))))
      ·try dsimp only
       exact hD.put (y := x24) hx24 (by simpa using hc29)
      ·try dsimp only
       omega
     ·refine wp_skip' (to_k0 (fun _ _ h => h) (hK11 _ _ _ _ _ ?_))
      clear hK11
      refine wp_reg ?_
      refine ol_r (r_move rfl) rfl ?_
      refine ol_r (r_add rfl rfl (by omega)) rfl ?_
      refine ol_r (r_assign rfl) rfl ?_
      refine ol_nil (to_k0 (fun _ _ h => h) (hK8 ((i, j + 1, ys)) _ _ ?_ ?_ (sub_cons rfl (sub_cons rfl sub_nil)) (sub_cons rfl (sub_cons rfl (sub_cons rfl sub_nil))) (by exact (subH_row rfl (by first | (dsimp only; rfl; done) | (rfl; done) | (dsimp only; done)) subH_nil)) (subH_same rfl (subH_same rfl (subH_same rfl (subH_same rfl (subH_same rfl subH_nil)))))))
      ·try dsimp only
       exact hD.skip hx24 (by simpa using hc29)
      ·try dsimp only
       omega
    ·refine wp_exit' (to_k0 (fun _ _ h => h) (hK6 _ _ _ _ _ ?_))
     clear hK6
     refine wp_seq' fun K15 hK15 => ?_
     refine wp_reg ?_
     refine ol_r (r_move rfl) rfl ?_
     refine ol_r (r_move rfl) rfl ?_
     refine ol_r (r_sl rfl rfl rfl sl46 (by simp only [Option.getD_some, Option.getD_none]; omega) (hcap)) rfl ?_
     refine ol_clearO encSpan (id := 900) rfl rfl rfl Try.underlying46 Try.zeroValue54 rfl rfl (by simp only [Option.getD_some, Option.getD_none]; omega) fun vs38 hvs38 => ?_
     simp only [Option.getD_some, Option.getD_none, Int.toNat_natCast] at hvs38
     refine ol_nil (to_k0 (fun _ _ h => h) (hK15 _ _ _ _ _ ?_))
     clear hK15
     refine wp_seq' fun K16 hK16 => ?_
     refine wp_reg ?_
     refine ol_r (r_move rfl) rfl ?_
     refine ol_r (r_move rfl) rfl ?_
     refine ol_cutO (id := 900) rfl rfl rfl sl46 (by omega) (hcap) rfl ?_
     refine ol_r (r_assign rfl) rfl ?_
     refine ol_nil (to_k0 (fun _ _ h => h) (hK16 _ _ _ _ _ ?_))
     clear hK16
     refine hQ.ret (rvs1 (rv_t rfl)) (fun _ _ h => h) fun w hb hs hB hkd => ?_
     obtain rfl : j = xs.length := by omega
     have hD1 := hD.done
     have hD2 := hD.i
     rw [List.take_length] at hD1 hD2
     rw [Int.toNat_natCast] at hs
     have hD3 : encSpan.enc (xs.filter fun x => !p x) = vs38.take (i * 2) := by rw [← hD1]; exact hvs38.symm
     rw [hD2, hD3]
     exact ⟨rfl, hb, hs.sub (subH_same rfl (subH_same rfl (subH_same rfl (subH_same rfl (subH_same rfl (subH_same rfl subH_nil)))))), hB, hkd⟩
end Go.Proofs.Ytogcclagmobkiaa
