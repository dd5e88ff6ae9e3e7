/-
  The stable sort of Go's library, over a row of ints of the caller's: walked. (XStab with the order of quant.Parts.)
-/
import Derived.Sort.Grow
import Derived.Test.YtfbmkepogcimlaaXmA
import Derived.Test.YtfbmkepogcimlaaXmB
import Derived.Test.YtfbmkepogcimlaaXmC



namespace Go.Proofs.Ytfbmkepogcimlaa
open Go Go.RowKit Hx
set_option linter.unusedVariables false
set_option linter.unusedSimpArgs false
set_option maxRecDepth 8000
def ltC (cf : Int → Int → Int) (x y : Int) : Bool := decide (cf x y < 0)
theorem ltC_t {cf : Int → Int → Int} {x y : Int} (h : cf x y < 0) : ltC cf x y = true := decide_eq_true h
theorem ltC_f {cf : Int → Int → Int} {x y : Int} (h : ¬cf x y < 0) : ltC cf x y = false := decide_eq_false h
theorem tab_eq {n : Nat} {f : Nat → Int} {k : Nat} {x : Int} (h : (tab n f)[k]? = some x) : f k = x := (tab_get h).2.symm
theorem sw_row {n i j : Nat} {f : Nat → Int} {x y : Int} {u v : Int} (hu : u.toNat = i) (hv : v.toNat = j) (hx : ∃ k, k = j ∧ (tab n f)[k]? = some x) (hy : ∃ k, k = i ∧ (tab n f)[k]? = some y) : ((tab n f).set u.toNat x).set v.toNat y = tab n (sw2 f i j) := by
  obtain ⟨_, rfl, hx⟩ := hx
  obtain ⟨_, rfl, hy⟩ := hy
  have h1 := tab_get hx
  have h2 := tab_get hy
  rw [hu, hv, h1.2, h2.2]
  exact tab_sw2 f h2.1 h1.1
theorem r_subT {P : Program} {N : Fr} {B : Nat} {w0 : World} {al : AL} {H : HL} {ty : TypeId} {x y : Operand} {t t' : TypeId} {m l : Int} (v : Nat) (hx : ev al x = some (.int .i64 m)) (hy : ev al y = some (.int .i64 l)) (h : m - l = v) (hv : v ≤ 1000000000000) : Runs P N B w0 (.binOp .sub t x y t') ty al H (.int .i64 (v : Int)) := by
  have h2 := r_sub (P := P) (N := N) (B := B) (w0 := w0) (H := H) (ty := ty) (t := t) (t' := t') hx hy (by omega)
  rw [h] at h2; exact h2
theorem r_addT {P : Program} {N : Fr} {B : Nat} {w0 : World} {al : AL} {H : HL} {ty : TypeId} {x y : Operand} {t t' : TypeId} {m l : Int} (v : Nat) (hx : ev al x = some (.int .i64 m)) (hy : ev al y = some (.int .i64 l)) (h : m + l = v) (hv : v ≤ 1000000000000) : Runs P N B w0 (.binOp .add t x y t') ty al H (.int .i64 (v : Int)) := by
  have h2 := r_add (P := P) (N := N) (B := B) (w0 := w0) (H := H) (ty := ty) (t := t) (t' := t') hx hy (by omega)
  rw [h] at h2; exact h2
theorem r_mulT {P : Program} {N : Fr} {B : Nat} {w0 : World} {al : AL} {H : HL} {ty : TypeId} {x y : Operand} {t t' : TypeId} {m l : Int} (v : Nat) (hx : ev al x = some (.int .i64 m)) (hy : ev al y = some (.int .i64 l)) (h : m * l = v) (hv : v ≤ 1000000000000) : Runs P N B w0 (.binOp .mul t x y t') ty al H (.int .i64 (v : Int)) := by
  have h2 := r_mul (P := P) (N := N) (B := B) (w0 := w0) (H := H) (ty := ty) (t := t) (t' := t') hx hy (by omega)
  rw [h] at h2; exact h2
theorem rotF_id1 (f : Nat → Int) (m b : Nat) : rotF f m m b = f := by
  funext x
  simp only [rotF]
  repeat' split
  all_goals first | (exfalso; omega) | (congr 1; omega) | rfl
theorem rotF_id2 (f : Nat → Int) (a m : Nat) : rotF f a m m = f := by
  funext x
  simp only [rotF]
  repeat' split
  all_goals first | (exfalso; omega) | (congr 1; omega) | rfl
theorem RR.lt_left {lt : Int → Int → Bool} (hw : Swo lt) {x h p : Int} (h1 : RR lt x h) (h2 : lt h p = true) : lt x p = true := by
  rcases h1 with h1 | ⟨h1, _⟩
  · exact hw.trans _ _ _ h1 h2
  · cases h3 : lt x p with
    | true => rfl
    | false => have := hw.inc _ _ _ h1 h3; rw [h2] at this; cases this
theorem RR.lt_right {lt : Int → Int → Bool} (hw : Swo lt) {x h m : Int} (h1 : RR lt x h) (h2 : lt m x = true) : lt m h = true := by
  rcases h1 with h1 | ⟨h1, _⟩
  · exact hw.trans _ _ _ h2 h1
  · cases h3 : lt m h with
    | true => rfl
    | false => have := hw.inc _ _ _ h3 h1; rw [h2] at this; cases this
theorem good_of {Good : Int → Prop} {f g : Nat → Int} {n : Nat} (h : ∀ i, i < n → Good (f i)) (hs : SaS f g 0 n) : ∀ i, i < n → Good (g i) := fun i hi => by
  obtain ⟨y, _, h2, h3⟩ := hs.2 i (Nat.zero_le _) hi
  rw [h3]; exact h y h2
theorem Blo.all {lt : Int → Int → Bool} {f g : Nat → Int} {a b n : Nat} (h : Blo lt f g a b) (hab : a ≤ b) (hb : b ≤ n) : SaS f g 0 n := h.sa.widen (Nat.zero_le _) hb hab h.out
/-- Blocks of a size are sorted, each with what it held. -/
def Blks (lt : Int → Int → Bool) (f F : Nat → Int) (s n : Nat) : Prop := ∀ p, s ∣ p → p < n → SoR lt F p (min (p + s) n) ∧ SaS f F p (min (p + s) n)

theorem swapRange_w (cf : Int → Int → Int) (Good : Int → Prop) (B : Nat) (cb : Nat) (a : Option Addr) (n c : Nat) (e1 e2 e3 e4 e5 e6 e7 e8 e9 e10 : Ent) (f : Nat → Int) (p q m : Nat) (w : World) (hB : B ≤ w.heap.size) (hn : n ≤ 1000000) (h1 : p + m ≤ q) (h2 : q + m ≤ n) (hs : Sat B w [(5000, .row a n c (encI.enc (tab n f)) 3 1), (5001, e1), (5002, e2), (5003, e3), (5004, e4), (5005, e5), (5006, e6), (5007, e7), (5008, e8), (5009, e9), (5010, e10)]) :
    Calls Try.prog 148 #[.slice a n c, .int .i64 p, .int .i64 q, .int .i64 m, .func (.func 122) #[] #[.pointer (some ⟨cb, 0, none⟩)]] w fun e w' => ∃ g, e = .returned (.tuple #[]) ∧ Below B w w' ∧ Sat B w' [(5000, .row a n c (encI.enc (tab n g)) 3 1), (5001, e1), (5002, e2), (5003, e3), (5004, e4), (5005, e5), (5006, e6), (5007, e7), (5008, e8), (5009, e9), (5010, e10)] ∧ B ≤ w'.heap.size ∧ Kd (fun _ => False) w w' ∧ g = swF f p q m := by

  refine enterQ (N := 38) (C := fun _ => False) (H := [(5000, .row a n c (encI.enc (tab n f)) 3 1), (5001, e1), (5002, e2), (5003, e3), (5004, e4), (5005, e5), (5006, e6), (5007, e7), (5008, e8), (5009, e9), (5010, e10)]) (B := B) (args := [_, _, _, _, _]) Try.func148 rfl rfl rfl (hB) (hs) fun Q hQ => ?_
  refine wp_seq' fun K1 hK1 => ?_
  refine wp_reg ?_
  refine ol_r (r_assign rfl) rfl ?_
  refine ol_nil (to_k0 (fun _ _ h => h) (hK1 _ _ _ _ _ ?_))
  clear hK1
  refine wp_block' ?_
  apply wp_loopM (σ := Nat) (fun s => s ≤ m) (fun s => [(10, .int .i64 s)]) [(0, _), (1, _), (2, _), (3, _)] (fun s => [(5000, .row a n c (encI.enc (tab n (swF f p q s))) 3 1)]) [(5001, _), (5002, _), (5003, _), (5004, _), (5005, _), (5006, _), (5007, _), (5008, _), (5009, _), (5010, _)] (fun s => m - s) (0)
  ·try dsimp only
   exact Nat.zero_le _
  ·exact (sub_cons rfl sub_nil)
  ·exact (sub_cons rfl (sub_cons rfl (sub_cons rfl (sub_cons rfl sub_nil))))
  ·exact (subH_row rfl (by first | (dsimp only; rw [swF_zero]; done) | (rw [swF_zero]; done) | (dsimp only; done)) subH_nil)
  ·exact (subH_same rfl (subH_same rfl (subH_same rfl (subH_same rfl (subH_same rfl (subH_same rfl (subH_same rfl (subH_same rfl (subH_same rfl (subH_same rfl subH_nil))))))))))
  ·rintro k hk
   have hFl := tab_len n (swF f p q k)
   intro K2 hK2
   refine wp_seq' fun K3 hK3 => ?_
   refine wp_seq' fun K4 hK4 => ?_
   refine wp_reg ?_
   refine ol_r (r_move rfl) rfl ?_
   refine ol_r (r_move rfl) rfl ?_
   refine ol_r (r_lss rfl rfl) rfl ?_
   refine ol_nil (to_k0 (fun _ _ h => h) (hK4 _ _ _ _ _ ?_))
   clear hK4
   first | refine wp_condD rfl (fun hc13 => ?_) (fun hc13 => ?_) | refine wp_condN rfl (fun hc13 => ?_) (fun hc13 => ?_) | refine wp_condNB rfl (fun hc13 => ?_) (fun hc13 => ?_) | refine wp_cond' rfl (fun hc13 => ?_) (fun hc13 => ?_)
   ·refine wp_skip' (to_k0 (fun _ _ h => h) (hK3 _ _ _ _ _ ?_))
    clear hK3
    refine wp_seq' fun K5 hK5 => ?_
    refine wp_block' ?_
    refine wp_rega [(999, [(5001, _), (5002, _), (5003, _), (5004, _), (5005, _), (5006, _), (5007, _), (5008, _), (5009, _), (5010, _)]), (21, [(5000, _)])] (by kernel_rfl) ⟨.inr (subH_same rfl (subH_same rfl (subH_same rfl (subH_same rfl (subH_same rfl (subH_same rfl (subH_same rfl (subH_same rfl (subH_same rfl (subH_same rfl subH_nil)))))))))), ⟨.inr (subH_same rfl subH_nil), trivial⟩⟩ ?_
    refine aq_r 0 999 rfl (by kernel_rfl) (by kernel_rfl) (by kernel_rfl) (.head _) (by kernel_rfl) (by kernel_rfl) rfl (r_move rfl) ?_
    refine aq_r 1 999 rfl (by kernel_rfl) (by kernel_rfl) (by kernel_rfl) (.head _) (by kernel_rfl) (by kernel_rfl) rfl (r_move rfl) ?_
    refine aq_r 2 999 rfl (by kernel_rfl) (by kernel_rfl) (by kernel_rfl) (.head _) (by kernel_rfl) (by kernel_rfl) rfl (r_move rfl) ?_
    refine aq_r 3 999 rfl (by kernel_rfl) (by kernel_rfl) (by kernel_rfl) (.head _) (by kernel_rfl) (by kernel_rfl) rfl (r_add rfl rfl (by omega)) ?_
    refine aq_r 4 999 rfl (by kernel_rfl) (by kernel_rfl) (by kernel_rfl) (.head _) (by kernel_rfl) (by kernel_rfl) rfl (r_move rfl) ?_
    refine aq_r 5 999 rfl (by kernel_rfl) (by kernel_rfl) (by kernel_rfl) (.head _) (by kernel_rfl) (by kernel_rfl) rfl (r_move rfl) ?_
    refine aq_r 6 999 rfl (by kernel_rfl) (by kernel_rfl) (by kernel_rfl) (.head _) (by kernel_rfl) (by kernel_rfl) rfl (r_move rfl) ?_
    refine aq_r 7 999 rfl (by kernel_rfl) (by kernel_rfl) (by kernel_rfl) (.head _) (by kernel_rfl) (by kernel_rfl) rfl (r_add rfl rfl (by omega)) ?_
    refine aq_r 8 999 rfl (by kernel_rfl) (by kernel_rfl) (by kernel_rfl) (.head _) (by kernel_rfl) (by kernel_rfl) rfl (r_move rfl) ?_
    refine aq_r 9 999 rfl (by kernel_rfl) (by kernel_rfl) (by kernel_rfl) (.head _) (by kernel_rfl) (by kernel_rfl) rfl (r_move rfl) ?_
    refine aq_r 10 999 rfl (by kernel_rfl) (by kernel_rfl) (by kernel_rfl) (.head _) (by kernel_rfl) (by kernel_rfl) rfl (r_move rfl) ?_
    refine aq_r 11 999 rfl (by kernel_rfl) (by kernel_rfl) (by kernel_rfl) (.head _) (by kernel_rfl) (by kernel_rfl) rfl (r_add rfl rfl (by omega)) ?_
    refine aq_ixo 12 21 rfl (by kernel_rfl) (by kernel_rfl) (by kernel_rfl) (.tail _ (.head _)) (by kernel_rfl) (by kernel_rfl) rfl (id := 5000) encI _ rfl rfl rfl rfl sl61 (by omega) (by omega) fun x28 hx28 => ?_
    try simp only [Int.toNat_natCast] at hx28
    try simp only [Int.toNat_natCast] at hx28
    refine aq_r 13 21 rfl (by kernel_rfl) (by kernel_rfl) (by kernel_rfl) (.tail _ (.head _)) (by kernel_rfl) (by kernel_rfl) rfl (r_ldw rfl (fun w1 hb1 hs1 hB1 => show Loads _ _ _ _ (.int .i64 x28) from ld_own (id := 5000) hs1 rfl rfl ty3 hx28)) ?_
    refine aq_r 14 999 rfl (by kernel_rfl) (by kernel_rfl) (by kernel_rfl) (.head _) (by kernel_rfl) (by kernel_rfl) rfl (r_move rfl) ?_
    refine aq_r 15 999 rfl (by kernel_rfl) (by kernel_rfl) (by kernel_rfl) (.head _) (by kernel_rfl) (by kernel_rfl) rfl (r_move rfl) ?_
    refine aq_r 16 999 rfl (by kernel_rfl) (by kernel_rfl) (by kernel_rfl) (.head _) (by kernel_rfl) (by kernel_rfl) rfl (r_move rfl) ?_
    refine aq_r 17 999 rfl (by kernel_rfl) (by kernel_rfl) (by kernel_rfl) (.head _) (by kernel_rfl) (by kernel_rfl) rfl (r_add rfl rfl (by omega)) ?_
    refine aq_one (i := 18) (by kernel_rfl) rfl fun K6 hK6 => ?_
    refine ol_ixo (id := 5000) encI _ rfl rfl rfl rfl sl61 (by omega) rfl fun x34 hx34 => ?_
    try simp only [Int.toNat_natCast] at hx34
    try simp only [Int.toNat_natCast] at hx34
    refine ol_nil (to_k0 (fun _ _ h => h) (hK6 _ _ ⟨.inr (by repeat' first | exact subH_nil | refine subH_same rfl ?_ | (refine subH_blk rfl (by repeat' first | exact sub_nil | refine sub_cons rfl ?_) ?_)), ⟨.inr (by repeat' first | exact subH_nil | refine subH_same rfl ?_ | (refine subH_blk rfl (by repeat' first | exact sub_nil | refine sub_cons rfl ?_) ?_)), trivial⟩⟩ ?_))
    clear hK6
    refine aq_r 19 21 rfl (by kernel_rfl) (by kernel_rfl) (by kernel_rfl) (.tail _ (.head _)) (by kernel_rfl) (by kernel_rfl) rfl (r_ldw rfl (fun w1 hb1 hs1 hB1 => show Loads _ _ _ _ (.int .i64 x34) from ld_own (id := 5000) hs1 rfl rfl ty3 hx34)) ?_
    refine aq_ixo 20 21 rfl (by kernel_rfl) (by kernel_rfl) (by kernel_rfl) (.tail _ (.head _)) (by kernel_rfl) (by kernel_rfl) rfl (id := 5000) encI _ rfl rfl rfl rfl sl61 (by omega) (by omega) fun x36 hx36 => ?_
    try simp only [Int.toNat_natCast] at hx36
    try simp only [Int.toNat_natCast] at hx36
    refine aq_one (i := 21) (by kernel_rfl) rfl fun K7 hK7 => ?_
    refine ol_storeRow (id := 5000) _ _ _ rfl rfl rfl rfl sz3 (by omega) ?_
    refine ol_nil (to_k0 (fun _ _ h => h) (hK7 _ _ ⟨.inr (by repeat' first | exact subH_nil | refine subH_same rfl ?_ | (refine subH_blk rfl (by repeat' first | exact sub_nil | refine sub_cons rfl ?_) ?_)), ⟨.inl (by kernel_rfl), trivial⟩⟩ ?_))
    clear hK7
    refine aq_one (i := 22) (by kernel_rfl) rfl fun K8 hK8 => ?_
    refine ol_ixo (id := 5000) encI _ rfl rfl rfl rfl sl61 (by omega) rfl fun x37 hx37 => ?_
    try simp only [Int.toNat_natCast] at hx37
    try simp only [Int.toNat_natCast] at hx37
    refine ol_nil (to_k0 (fun _ _ h => h) (hK8 _ _ ⟨.inr (by repeat' first | exact subH_nil | refine subH_same rfl ?_ | (refine subH_blk rfl (by repeat' first | exact sub_nil | refine sub_cons rfl ?_) ?_)), ⟨.inl (by kernel_rfl), trivial⟩⟩ ?_))
    clear hK8
    refine aq_one (i := 23) (by kernel_rfl) rfl fun K9 hK9 => ?_
    refine ol_storeRow (id := 5000) _ _ _ rfl rfl rfl rfl sz3 (by omega) ?_
    refine ol_nil (to_k0 (fun _ _ h => h) (hK9 _ _ ⟨.inr (by repeat' first | exact subH_nil | refine subH_same rfl ?_ | (refine subH_blk rfl (by repeat' first | exact sub_nil | refine sub_cons rfl ?_) ?_)), ⟨.inl (by kernel_rfl), trivial⟩⟩ ?_))
    clear hK9
    refine aq_done (by kernel_rfl) ?_
    refine (to_k0 (fun _ _ h => h) (hK5 _ _ _ _ _ ?_))
    clear hK5
    refine wp_reg ?_
    refine ol_r (r_move rfl) rfl ?_
    refine ol_r (r_add rfl rfl (by omega)) rfl ?_
    refine ol_r (r_assign rfl) rfl ?_
    refine ol_nil (to_k0 (fun _ _ h => h) (hK2 (k + 1) _ _ ?_ ?_ (sub_cons rfl sub_nil) (sub_cons rfl (sub_cons rfl (sub_cons rfl (sub_cons rfl sub_nil)))) (by exact (subH_row rfl (by first | (dsimp only; (rw [swF_succ (by omega), sw_row (i := p + k) (j := q + k) (by omega) (by omega) ⟨_, by omega, hx28⟩ ⟨_, by omega, hx34⟩]); done) | ((rw [swF_succ (by omega), sw_row (i := p + k) (j := q + k) (by omega) (by omega) ⟨_, by omega, hx28⟩ ⟨_, by omega, hx34⟩]); done) | (dsimp only; done)) subH_nil)) (subH_same rfl (subH_same rfl (subH_same rfl (subH_same rfl (subH_same rfl (subH_same rfl (subH_same rfl (subH_same rfl (subH_same rfl (subH_same rfl subH_nil))))))))))))
    ·try dsimp only
     omega
    ·try dsimp only
     omega
   ·refine wp_exit' (hQ.fall rvs0 (fun _ _ h => h) fun w hb hs hB hkd => ?_)
    obtain rfl : k = m := by omega
    exact ⟨_, rfl, hb, hs.sub (subH_same rfl (subH_same rfl (subH_same rfl (subH_same rfl (subH_same rfl (subH_same rfl (subH_same rfl (subH_same rfl (subH_same rfl (subH_same rfl (subH_same rfl subH_nil))))))))))), hB, hkd, rfl⟩

theorem rotate_w (cf : Int → Int → Int) (Good : Int → Prop) (B : Nat) (cb : Nat) (a : Option Addr) (n c : Nat) (e1 e2 e3 e4 e5 e6 e7 e8 e9 e10 : Ent) (f : Nat → Int) (p m q : Nat) (w : World) (hB : B ≤ w.heap.size) (hn : n ≤ 1000000) (h1 : p < m) (h2 : m < q) (h3 : q ≤ n) (hs : Sat B w [(5000, .row a n c (encI.enc (tab n f)) 3 1), (5001, e1), (5002, e2), (5003, e3), (5004, e4), (5005, e5), (5006, e6), (5007, e7), (5008, e8), (5009, e9), (5010, e10)]) :
    Calls Try.prog 147 #[.slice a n c, .int .i64 p, .int .i64 m, .int .i64 q, .func (.func 122) #[] #[.pointer (some ⟨cb, 0, none⟩)]] w fun e w' => ∃ g, e = .returned (.tuple #[]) ∧ Below B w w' ∧ Sat B w' [(5000, .row a n c (encI.enc (tab n g)) 3 1), (5001, e1), (5002, e2), (5003, e3), (5004, e4), (5005, e5), (5006, e6), (5007, e7), (5008, e8), (5009, e9), (5010, e10)] ∧ B ≤ w'.heap.size ∧ Kd (fun _ => False) w w' ∧ g = rotF f p m q := by

  refine enterQ (N := 58) (C := fun _ => False) (H := [(5000, .row a n c (encI.enc (tab n f)) 3 1), (5001, e1), (5002, e2), (5003, e3), (5004, e4), (5005, e5), (5006, e6), (5007, e7), (5008, e8), (5009, e9), (5010, e10)]) (B := B) (args := [_, _, _, _, _]) Try.func147 rfl rfl rfl (hB) (hs) fun Q hQ => ?_
  refine wp_seq' fun K1 hK1 => ?_
  refine wp_reg ?_
  refine ol_r (r_move rfl) rfl ?_
  refine ol_r (r_move rfl) rfl ?_
  refine ol_r (r_subT (m - p) rfl rfl (by omega) (by omega)) rfl ?_
  refine ol_r (r_assign rfl) rfl ?_
  refine ol_nil (to_k0 (fun _ _ h => h) (hK1 _ _ _ _ _ ?_))
  clear hK1
  refine wp_seq' fun K2 hK2 => ?_
  refine wp_reg ?_
  refine ol_r (r_move rfl) rfl ?_
  refine ol_r (r_move rfl) rfl ?_
  refine ol_r (r_subT (q - m) rfl rfl (by omega) (by omega)) rfl ?_
  refine ol_r (r_assign rfl) rfl ?_
  refine ol_nil (to_k0 (fun _ _ h => h) (hK2 _ _ _ _ _ ?_))
  clear hK2
  refine wp_seq' fun K3 hK3 => ?_
  refine wp_block' ?_
  apply wp_loopM (σ := Nat × Nat × (Nat → Int)) (fun s => 0 < s.1 ∧ 0 < s.2.1 ∧ s.1 ≤ m - p ∧ s.2.1 ≤ q - m ∧ rotF s.2.2 (m - s.1) m (m + s.2.1) = rotF f p m q) (fun s => [(10, .int .i64 s.1), (11, .int .i64 s.2.1)]) [(0, _), (2, _), (4, _)] (fun s => [(5000, .row a n c (encI.enc (tab n s.2.2)) 3 1)]) [(5001, _), (5002, _), (5003, _), (5004, _), (5005, _), (5006, _), (5007, _), (5008, _), (5009, _), (5010, _)] (fun s => s.1 + s.2.1) ((m - p, q - m, f))
  ·try dsimp only
   exact ⟨by omega, by omega, Nat.le_refl _, Nat.le_refl _, by rw [show m - (m - p) = p by omega, show m + (q - m) = q by omega]⟩
  ·exact (sub_cons rfl (sub_cons rfl sub_nil))
  ·exact (sub_cons rfl (sub_cons rfl (sub_cons rfl sub_nil)))
  ·exact (subH_row rfl (by first | (dsimp only; rfl; done) | (rfl; done) | (dsimp only; done)) subH_nil)
  ·exact (subH_same rfl (subH_same rfl (subH_same rfl (subH_same rfl (subH_same rfl (subH_same rfl (subH_same rfl (subH_same rfl (subH_same rfl (subH_same rfl subH_nil))))))))))
  ·rintro ⟨i, j, F⟩ ⟨hi, hj, hi2, hj2, hF⟩
   dsimp only at hi hj hi2 hj2 hF ⊢
   intro K4 hK4
   refine wp_seq' fun K5 hK5 => ?_
   refine wp_seq' fun K6 hK6 => ?_
   refine wp_reg ?_
   skip
   refine ol_r (r_move rfl) rfl ?_
   refine ol_r (r_move rfl) rfl ?_
   refine ol_r (r_neq rfl rfl) rfl ?_
   refine ol_nil (to_k0 (fun _ _ h => h) (hK6 _ _ _ _ _ ?_))
   clear hK6
   first | refine wp_condD rfl (fun hc20 => ?_) (fun hc20 => ?_) | refine wp_condN rfl (fun hc20 => ?_) (fun hc20 => ?_) | refine wp_condNB rfl (fun hc20 => ?_) (fun hc20 => ?_) | refine wp_cond' rfl (fun hc20 => ?_) (fun hc20 => ?_)
   ·refine wp_skip' (to_k0 (fun _ _ h => h) (hK5 _ _ _ _ _ ?_))
    clear hK5
    refine wp_block' ?_
    refine wp_seq' fun K7 hK7 => ?_
    refine wp_reg ?_
    refine ol_r (r_move rfl) rfl ?_
    refine ol_r (r_move rfl) rfl ?_
    refine ol_r (r_gtr rfl rfl) rfl ?_
    refine ol_nil (to_k0 (fun _ _ h => h) (hK7 _ _ _ _ _ ?_))
    clear hK7
    first | refine wp_condD rfl (fun hc23 => ?_) (fun hc23 => ?_) | refine wp_condN rfl (fun hc23 => ?_) (fun hc23 => ?_) | refine wp_condNB rfl (fun hc23 => ?_) (fun hc23 => ?_) | refine wp_cond' rfl (fun hc23 => ?_) (fun hc23 => ?_)
    ·refine wp_seq' fun K8 hK8 => ?_
     refine wp_reg ?_
     refine ol_r (r_move rfl) rfl ?_
     refine ol_r (r_move rfl) rfl ?_
     refine ol_r (r_move rfl) rfl ?_
     refine ol_r (r_subT (m - i) rfl rfl (by omega) (by omega)) rfl ?_
     refine ol_r (r_move rfl) rfl ?_
     refine ol_r (r_move rfl) rfl ?_
     refine ol_r (r_move rfl) rfl ?_
     refine ol_call rfl rfl cb148 rfl (fun w1 hb1 hs1 hB1 => ?_)
     refine Calls.mono (swapRange_w cf Good B cb a n c e1 e2 e3 e4 e5 e6 e7 e8 e9 e10 F (m - i) m j _ hB1 hn (by omega) (by omega) (hs1.sub (subH_same rfl (subH_same rfl (subH_same rfl (subH_same rfl (subH_same rfl (subH_same rfl (subH_same rfl (subH_same rfl (subH_same rfl (subH_same rfl (subH_same rfl subH_nil))))))))))))) ?_
     rintro e w2 ⟨g, rfl, hb2, hs2, hB2, hk2, hg⟩
     refine After.sat rfl hb1 hb2 hs2 hB2 (hk2.imp fun _ h => h.elim) ?_
     clear hk2 hs2 hb2 hB2 hB1 hs1 hb1 w2 w1
     refine ol_nil (to_k0 (fun _ _ h => h) (hK8 _ _ _ _ _ ?_))
     clear hK8
     refine wp_reg ?_
     refine ol_r (r_move rfl) rfl ?_
     refine ol_r (r_move rfl) rfl ?_
     refine ol_r (r_subT (i - j) rfl rfl (by omega) (by omega)) rfl ?_
     refine ol_r (r_assign rfl) rfl ?_
     refine ol_nil (to_k0 (fun _ _ h => h) (hK4 ((_, _, _)) _ _ ?_ ?_ (sub_cons rfl (sub_cons rfl sub_nil)) (sub_cons rfl (sub_cons rfl (sub_cons rfl sub_nil))) (by exact (subH_row rfl (by first | (dsimp only; rfl; done) | (rfl; done) | (dsimp only; done)) subH_nil)) (subH_same rfl (subH_same rfl (subH_same rfl (subH_same rfl (subH_same rfl (subH_same rfl (subH_same rfl (subH_same rfl (subH_same rfl (subH_same rfl subH_nil))))))))))))
     ·try dsimp only
      first
        | exact ⟨by omega, by omega, by omega, by omega, by rw [hg, rot_gt (by omega) (by omega) (by omega)]; exact hF⟩
        | exact ⟨by omega, by omega, by omega, by omega, by rw [hg, rot_lt (by omega) (by omega) (by omega)]; exact hF⟩
     ·try dsimp only
      omega
    ·refine wp_seq' fun K9 hK9 => ?_
     refine wp_reg ?_
     refine ol_r (r_move rfl) rfl ?_
     refine ol_r (r_move rfl) rfl ?_
     refine ol_r (r_move rfl) rfl ?_
     refine ol_r (r_subT (m - i) rfl rfl (by omega) (by omega)) rfl ?_
     refine ol_r (r_move rfl) rfl ?_
     refine ol_r (r_move rfl) rfl ?_
     refine ol_r (r_add rfl rfl (by omega)) rfl ?_
     refine ol_r (r_move rfl) rfl ?_
     refine ol_r (r_subT (m + j - i) rfl rfl (by omega) (by omega)) rfl ?_
     refine ol_r (r_move rfl) rfl ?_
     refine ol_r (r_move rfl) rfl ?_
     refine ol_call rfl rfl cb148 rfl (fun w1 hb1 hs1 hB1 => ?_)
     refine Calls.mono (swapRange_w cf Good B cb a n c e1 e2 e3 e4 e5 e6 e7 e8 e9 e10 F (m - i) (m + j - i) i _ hB1 hn (by omega) (by omega) (hs1.sub (subH_same rfl (subH_same rfl (subH_same rfl (subH_same rfl (subH_same rfl (subH_same rfl (subH_same rfl (subH_same rfl (subH_same rfl (subH_same rfl (subH_same rfl subH_nil))))))))))))) ?_
     rintro e w2 ⟨g, rfl, hb2, hs2, hB2, hk2, hg⟩
     refine After.sat rfl hb1 hb2 hs2 hB2 (hk2.imp fun _ h => h.elim) ?_
     clear hk2 hs2 hb2 hB2 hB1 hs1 hb1 w2 w1
     refine ol_nil (to_k0 (fun _ _ h => h) (hK9 _ _ _ _ _ ?_))
     clear hK9
     refine wp_reg ?_
     refine ol_r (r_move rfl) rfl ?_
     refine ol_r (r_move rfl) rfl ?_
     refine ol_r (r_subT (j - i) rfl rfl (by omega) (by omega)) rfl ?_
     refine ol_r (r_assign rfl) rfl ?_
     refine ol_nil (to_k0 (fun _ _ h => h) (hK4 ((_, _, _)) _ _ ?_ ?_ (sub_cons rfl (sub_cons rfl sub_nil)) (sub_cons rfl (sub_cons rfl (sub_cons rfl sub_nil))) (by exact (subH_row rfl (by first | (dsimp only; rfl; done) | (rfl; done) | (dsimp only; done)) subH_nil)) (subH_same rfl (subH_same rfl (subH_same rfl (subH_same rfl (subH_same rfl (subH_same rfl (subH_same rfl (subH_same rfl (subH_same rfl (subH_same rfl subH_nil))))))))))))
     ·try dsimp only
      first
        | exact ⟨by omega, by omega, by omega, by omega, by rw [hg, rot_gt (by omega) (by omega) (by omega)]; exact hF⟩
        | exact ⟨by omega, by omega, by omega, by omega, by rw [hg, rot_lt (by omega) (by omega) (by omega)]; exact hF⟩
     ·try dsimp only
      omega
   ·refine wp_exit' (to_k0 (fun _ _ h => h) (hK3 _ _ _ _ _ ?_))
    clear hK3
    refine wp_reg ?_
    obtain rfl : i = j := by omega
    refine ol_r (r_move rfl) rfl ?_
    refine ol_r (r_move rfl) rfl ?_
    refine ol_r (r_move rfl) rfl ?_
    refine ol_r (r_subT (m - i) rfl rfl (by omega) (by omega)) rfl ?_
    refine ol_r (r_move rfl) rfl ?_
    refine ol_r (r_move rfl) rfl ?_
    refine ol_r (r_move rfl) rfl ?_
    refine ol_call rfl rfl cb148 rfl (fun w1 hb1 hs1 hB1 => ?_)
    refine Calls.mono (swapRange_w cf Good B cb a n c e1 e2 e3 e4 e5 e6 e7 e8 e9 e10 F (m - i) m i _ hB1 hn (by omega) (by omega) (hs1.sub (subH_same rfl (subH_same rfl (subH_same rfl (subH_same rfl (subH_same rfl (subH_same rfl (subH_same rfl (subH_same rfl (subH_same rfl (subH_same rfl (subH_same rfl subH_nil))))))))))))) ?_
    rintro e w2 ⟨g, rfl, hb2, hs2, hB2, hk2, hg⟩
    refine After.sat rfl hb1 hb2 hs2 hB2 (hk2.imp fun _ h => h.elim) ?_
    clear hk2 hs2 hb2 hB2 hB1 hs1 hb1 w2 w1
    refine ol_nil (hQ.fall rvs0 (fun _ _ h => h) fun w hb hs hB hkd => ?_)
    exact ⟨_, rfl, hb, hs.sub (subH_same rfl (subH_same rfl (subH_same rfl (subH_same rfl (subH_same rfl (subH_same rfl (subH_same rfl (subH_same rfl (subH_same rfl (subH_same rfl (subH_same rfl subH_nil))))))))))), hB, hkd, by rw [hg, rot_eq (by omega), hF]⟩

theorem insertion_w (cf : Int → Int → Int) (Good : Int → Prop) (B : Nat) (cb : Nat) (a : Option Addr) (n c : Nat) (e1 e2 e3 e4 e5 e6 e7 e8 e9 e10 : Ent) (f : Nat → Int) (p q : Nat) (w : World) (hw : Swo (ltC cf)) (hB : B ≤ w.heap.size) (hn : n ≤ 1000000) (h1 : q ≤ n) (hp : p ≤ n) (hG : ∀ i, i < n → Good (f i)) (hu : ∀ x y, p ≤ x → x < y → y < q → f x < f y) (hcmp : ∀ (w1 : World) (x y : Int), Good x → Good y → Sat B w1 [(5001, e1), (5002, e2)] → B ≤ w1.heap.size → Calls Try.prog 122 #[.int .i64 x, .int .i64 y, .pointer (some ⟨cb, 0, none⟩)] w1 fun e w' => e = .returned (.int .i64 (cf x y)) ∧ Below w1.heap.size w1 w') (hs : Sat B w [(5000, .row a n c (encI.enc (tab n f)) 3 1), (5001, e1), (5002, e2), (5003, e3), (5004, e4), (5005, e5), (5006, e6), (5007, e7), (5008, e8), (5009, e9), (5010, e10)]) :
    Calls Try.prog 144 #[.slice a n c, .int .i64 p, .int .i64 q, .func (.func 122) #[] #[.pointer (some ⟨cb, 0, none⟩)]] w fun e w' => ∃ g, e = .returned (.tuple #[]) ∧ Below B w w' ∧ Sat B w' [(5000, .row a n c (encI.enc (tab n g)) 3 1), (5001, e1), (5002, e2), (5003, e3), (5004, e4), (5005, e5), (5006, e6), (5007, e7), (5008, e8), (5009, e9), (5010, e10)] ∧ B ≤ w'.heap.size ∧ Kd (fun _ => False) w w' ∧ Blo (ltC cf) f g p q := by

  refine enterQ (N := 53) (C := fun _ => False) (H := [(5000, .row a n c (encI.enc (tab n f)) 3 1), (5001, e1), (5002, e2), (5003, e3), (5004, e4), (5005, e5), (5006, e6), (5007, e7), (5008, e8), (5009, e9), (5010, e10)]) (B := B) (args := [_, _, _, _]) Try.func144 rfl rfl rfl (hB) (hs) fun Q hQ => ?_
  refine wp_seq' fun K1 hK1 => ?_
  refine wp_reg ?_
  refine ol_r (r_move rfl) rfl ?_
  refine ol_r (r_addT (p + 1) rfl rfl (by omega) (by omega)) rfl ?_
  refine ol_r (r_assign rfl) rfl ?_
  refine ol_nil (to_k0 (fun _ _ h => h) (hK1 _ _ _ _ _ ?_))
  clear hK1
  refine wp_block' ?_
  apply wp_loopM (σ := Nat × (Nat → Int)) (fun s => p < s.1 ∧ (s.1 ≤ q ∨ s.1 = p + 1) ∧ SoR (ltC cf) s.2 p s.1 ∧ SaS f s.2 p s.1 ∧ (∀ x, x < p ∨ s.1 ≤ x → s.2 x = f x)) (fun s => [(8, .int .i64 s.1)]) [(0, _), (1, _), (2, _), (3, _)] (fun s => [(5000, .row a n c (encI.enc (tab n s.2)) 3 1)]) [(5001, _), (5002, _), (5003, _), (5004, _), (5005, _), (5006, _), (5007, _), (5008, _), (5009, _), (5010, _)] (fun s => q - s.1) ((p + 1, f))
  ·try dsimp only
   exact ⟨by omega, .inr rfl, fun x y h2 h3 h4 => by omega, SaS.refl _ _ _, fun _ _ => rfl⟩
  ·exact (sub_cons rfl sub_nil)
  ·exact (sub_cons rfl (sub_cons rfl (sub_cons rfl (sub_cons rfl sub_nil))))
  ·exact (subH_row rfl (by first | (dsimp only; rfl; done) | (rfl; done) | (dsimp only; done)) subH_nil)
  ·exact (subH_same rfl (subH_same rfl (subH_same rfl (subH_same rfl (subH_same rfl (subH_same rfl (subH_same rfl (subH_same rfl (subH_same rfl (subH_same rfl subH_nil))))))))))
  ·rintro ⟨i, F⟩ ⟨hi, hi2, hF1, hF2, hF3⟩
   dsimp only at hi hi2 hF1 hF2 hF3 ⊢
   intro K2 hK2
   refine wp_seq' fun K3 hK3 => ?_
   refine wp_seq' fun K4 hK4 => ?_
   refine wp_reg ?_
   refine ol_r (r_move rfl) rfl ?_
   refine ol_r (r_move rfl) rfl ?_
   refine ol_r (r_lss rfl rfl) rfl ?_
   refine ol_nil (to_k0 (fun _ _ h => h) (hK4 _ _ _ _ _ ?_))
   clear hK4
   first | refine wp_condD rfl (fun hc14 => ?_) (fun hc14 => ?_) | refine wp_condN rfl (fun hc14 => ?_) (fun hc14 => ?_) | refine wp_condNB rfl (fun hc14 => ?_) (fun hc14 => ?_) | refine wp_cond' rfl (fun hc14 => ?_) (fun hc14 => ?_)
   ·refine wp_skip' (to_k0 (fun _ _ h => h) (hK3 _ _ _ _ _ ?_))
    clear hK3
    refine wp_seq' fun K5 hK5 => ?_
    refine wp_block' ?_
    refine wp_seq' fun K6 hK6 => ?_
    refine wp_reg ?_
    refine ol_r (r_move rfl) rfl ?_
    refine ol_r (r_assign rfl) rfl ?_
    refine ol_nil (to_k0 (fun _ _ h => h) (hK6 _ _ _ _ _ ?_))
    clear hK6
    refine wp_block' ?_
    apply wp_loopM (σ := Nat × (Nat → Int)) (fun s => p ≤ s.1 ∧ s.1 ≤ i ∧ InsI (ltC cf) F s.2 p i s.1) (fun s => [(9, .int .i64 s.1)]) [(0, _), (1, _), (2, _), (3, _), (8, _)] (fun s => [(5000, .row a n c (encI.enc (tab n s.2)) 3 1)]) [(5001, _), (5002, _), (5003, _), (5004, _), (5005, _), (5006, _), (5007, _), (5008, _), (5009, _), (5010, _)] (fun s => s.1) ((i, F))
    ·try dsimp only
     refine ⟨by omega, Nat.le_refl _, InsI.start hF1 fun x h2 h3 => ?_⟩
     obtain ⟨y, y1, y2, y3⟩ := hF2.2 x h2 h3
     rw [y3, hF3 i (by omega)]
     exact hu y i y1 y2 (by omega)
    ·exact (sub_cons rfl sub_nil)
    ·exact (sub_cons rfl (sub_cons rfl (sub_cons rfl (sub_cons rfl (sub_cons rfl sub_nil)))))
    ·exact (subH_row rfl (by first | (dsimp only; rfl; done) | (rfl; done) | (dsimp only; done)) subH_nil)
    ·exact (subH_same rfl (subH_same rfl (subH_same rfl (subH_same rfl (subH_same rfl (subH_same rfl (subH_same rfl (subH_same rfl (subH_same rfl (subH_same rfl subH_nil))))))))))
    ·rintro ⟨j, G⟩ ⟨hj1, hj2, hI⟩
     dsimp only at hj1 hj2 hI ⊢
     have hGl := tab_len n G
     have hF2s : SaS f F p (i + 1) := hF2.widen (Nat.le_refl _) (Nat.le_succ _) (by omega) hF3
     have hGg : ∀ k, k < n → Good (G k) := good_of hG (((hF2s.trans hI.sa).widen (Nat.zero_le _) (show i + 1 ≤ n by omega) (by omega) fun x hx => by rw [hI.out x (by omega)]; exact hF3 x (by omega)))
     intro K7 hK7
     refine wp_seq' fun K8 hK8 => ?_
     refine wp_seq' fun K9 hK9 => ?_
     refine wp_regq (by kernel_rfl) (by kernel_rfl) ?_
     refine ql_r (r_move rfl) rfl ?_
     refine ql_r (r_move rfl) rfl ?_
     refine ql_r (r_gtr rfl rfl) rfl ?_
     refine ql_r (r_move rfl) rfl ?_
     refine ql_split (d := 21) rfl (fun hs21 => ?_) (fun hs21 => ?_)
     ·have phs21 := hs21; try simp only [decide_eq_true_eq, decide_eq_false_iff_not, Bool.not_eq_true', Bool.not_eq_false', Bool.not_true, Bool.not_false] at phs21
      refine ql_g rfl rfl hs21 ?_
      refine ql_r (r_move rfl) rfl ?_
      refine ql_g rfl rfl hs21 ?_
      refine ql_r (r_move rfl) rfl ?_
      refine ql_g rfl rfl hs21 ?_
      refine ql_r (r_move rfl) rfl ?_
      refine ql_g rfl rfl hs21 ?_
      refine ql_ixo (id := 5000) encI _ rfl rfl rfl rfl sl61 (by omega) (by omega) rfl fun x25 hx25 => ?_
      try simp only [Int.toNat_natCast] at hx25
      try simp only [Int.toNat_natCast] at hx25
      refine ql_g rfl rfl hs21 ?_
      refine ql_r (r_ldw rfl (fun w1 hb1 hs1 hB1 => show Loads _ _ _ _ (.int .i64 x25) from ld_own (id := 5000) hs1 rfl rfl ty3 hx25)) rfl ?_
      refine ql_g rfl rfl hs21 ?_
      refine ql_r (r_move rfl) rfl ?_
      refine ql_g rfl rfl hs21 ?_
      refine ql_r (r_move rfl) rfl ?_
      refine ql_g rfl rfl hs21 ?_
      refine ql_r (r_sub rfl rfl (by omega)) rfl ?_
      refine ql_g rfl rfl hs21 ?_
      refine ql_ixo (id := 5000) encI _ rfl rfl rfl rfl sl61 (by omega) (by omega) rfl fun x30 hx30 => ?_
      try simp only [Int.toNat_natCast] at hx30
      try simp only [Int.toNat_natCast] at hx30
      refine ql_g rfl rfl hs21 ?_
      refine ql_r (r_ldw rfl (fun w1 hb1 hs1 hB1 => show Loads _ _ _ _ (.int .i64 x30) from ld_own (id := 5000) hs1 rfl rfl ty3 hx30)) rfl ?_
      refine ql_g rfl rfl hs21 ?_
      have hx25' := hx25
      have hx30' := hx30
      rw [show (((j : Nat) : Int) - 1).toNat = j - 1 by omega] at hx30'
      refine ql_call rfl rfl cb122 rfl (fun w1 hb1 hs1 hB1 => hcmp _ _ _ (by rw [← tab_eq hx25]; exact hGg _ (by omega)) (by rw [← tab_eq hx30]; exact hGg _ (by omega)) (hs1.sub (subH_same rfl (subH_same rfl subH_nil))) hB1) ?_
      refine ql_g rfl rfl hs21 ?_
      refine ql_r (r_lss rfl rfl) rfl ?_
      refine ql_r (r_pickT rfl hs21 rfl) rfl ?_
      refine ql_nil (to_k0 (fun _ _ h => h) (hK9 _ _ _ _ _ ?_))
      clear hK9
      first | refine wp_condD rfl (fun hc34 => ?_) (fun hc34 => ?_) | refine wp_condN rfl (fun hc34 => ?_) (fun hc34 => ?_) | refine wp_condNB rfl (fun hc34 => ?_) (fun hc34 => ?_) | refine wp_cond' rfl (fun hc34 => ?_) (fun hc34 => ?_)
      ·refine wp_skip' (to_k0 (fun _ _ h => h) (hK8 _ _ _ _ _ ?_))
       clear hK8
       refine wp_seq' fun K10 hK10 => ?_
       refine wp_block' ?_
       refine wp_rega [(999, [(5001, _), (5002, _), (5003, _), (5004, _), (5005, _), (5006, _), (5007, _), (5008, _), (5009, _), (5010, _)]), (15, [(5000, _)])] (by kernel_rfl) ⟨.inr (subH_same rfl (subH_same rfl (subH_same rfl (subH_same rfl (subH_same rfl (subH_same rfl (subH_same rfl (subH_same rfl (subH_same rfl (subH_same rfl subH_nil)))))))))), ⟨.inr (subH_same rfl subH_nil), trivial⟩⟩ ?_
       refine aq_r 0 999 rfl (by kernel_rfl) (by kernel_rfl) (by kernel_rfl) (.head _) (by kernel_rfl) (by kernel_rfl) rfl (r_move rfl) ?_
       refine aq_r 1 999 rfl (by kernel_rfl) (by kernel_rfl) (by kernel_rfl) (.head _) (by kernel_rfl) (by kernel_rfl) rfl (r_move rfl) ?_
       refine aq_r 2 999 rfl (by kernel_rfl) (by kernel_rfl) (by kernel_rfl) (.head _) (by kernel_rfl) (by kernel_rfl) rfl (r_move rfl) ?_
       refine aq_r 3 999 rfl (by kernel_rfl) (by kernel_rfl) (by kernel_rfl) (.head _) (by kernel_rfl) (by kernel_rfl) rfl (r_move rfl) ?_
       refine aq_r 4 999 rfl (by kernel_rfl) (by kernel_rfl) (by kernel_rfl) (.head _) (by kernel_rfl) (by kernel_rfl) rfl (r_sub rfl rfl (by omega)) ?_
       refine aq_r 5 999 rfl (by kernel_rfl) (by kernel_rfl) (by kernel_rfl) (.head _) (by kernel_rfl) (by kernel_rfl) rfl (r_move rfl) ?_
       refine aq_r 6 999 rfl (by kernel_rfl) (by kernel_rfl) (by kernel_rfl) (.head _) (by kernel_rfl) (by kernel_rfl) rfl (r_move rfl) ?_
       refine aq_r 7 999 rfl (by kernel_rfl) (by kernel_rfl) (by kernel_rfl) (.head _) (by kernel_rfl) (by kernel_rfl) rfl (r_sub rfl rfl (by omega)) ?_
       refine aq_ixo 8 15 rfl (by kernel_rfl) (by kernel_rfl) (by kernel_rfl) (.tail _ (.head _)) (by kernel_rfl) (by kernel_rfl) rfl (id := 5000) encI _ rfl rfl rfl rfl sl61 (by omega) (by omega) fun x45 hx45 => ?_
       try simp only [Int.toNat_natCast] at hx45
       try simp only [Int.toNat_natCast] at hx45
       refine aq_r 9 15 rfl (by kernel_rfl) (by kernel_rfl) (by kernel_rfl) (.tail _ (.head _)) (by kernel_rfl) (by kernel_rfl) rfl (r_ldw rfl (fun w1 hb1 hs1 hB1 => show Loads _ _ _ _ (.int .i64 x45) from ld_own (id := 5000) hs1 rfl rfl ty3 hx45)) ?_
       refine aq_r 10 999 rfl (by kernel_rfl) (by kernel_rfl) (by kernel_rfl) (.head _) (by kernel_rfl) (by kernel_rfl) rfl (r_move rfl) ?_
       refine aq_r 11 999 rfl (by kernel_rfl) (by kernel_rfl) (by kernel_rfl) (.head _) (by kernel_rfl) (by kernel_rfl) rfl (r_move rfl) ?_
       refine aq_one (i := 12) (by kernel_rfl) rfl fun K11 hK11 => ?_
       refine ol_ixo (id := 5000) encI _ rfl rfl rfl rfl sl61 (by omega) rfl fun x49 hx49 => ?_
       try simp only [Int.toNat_natCast] at hx49
       try simp only [Int.toNat_natCast] at hx49
       refine ol_nil (to_k0 (fun _ _ h => h) (hK11 _ _ ⟨.inr (by repeat' first | exact subH_nil | refine subH_same rfl ?_ | (refine subH_blk rfl (by repeat' first | exact sub_nil | refine sub_cons rfl ?_) ?_)), ⟨.inr (by repeat' first | exact subH_nil | refine subH_same rfl ?_ | (refine subH_blk rfl (by repeat' first | exact sub_nil | refine sub_cons rfl ?_) ?_)), trivial⟩⟩ ?_))
       clear hK11
       refine aq_r 13 15 rfl (by kernel_rfl) (by kernel_rfl) (by kernel_rfl) (.tail _ (.head _)) (by kernel_rfl) (by kernel_rfl) rfl (r_ldw rfl (fun w1 hb1 hs1 hB1 => show Loads _ _ _ _ (.int .i64 x49) from ld_own (id := 5000) hs1 rfl rfl ty3 hx49)) ?_
       refine aq_ixo 14 15 rfl (by kernel_rfl) (by kernel_rfl) (by kernel_rfl) (.tail _ (.head _)) (by kernel_rfl) (by kernel_rfl) rfl (id := 5000) encI _ rfl rfl rfl rfl sl61 (by omega) (by omega) fun x51 hx51 => ?_
       try simp only [Int.toNat_natCast] at hx51
       try simp only [Int.toNat_natCast] at hx51
       refine aq_one (i := 15) (by kernel_rfl) rfl fun K12 hK12 => ?_
       refine ol_storeRow (id := 5000) _ _ _ rfl rfl rfl rfl sz3 (by omega) ?_
       refine ol_nil (to_k0 (fun _ _ h => h) (hK12 _ _ ⟨.inr (by repeat' first | exact subH_nil | refine subH_same rfl ?_ | (refine subH_blk rfl (by repeat' first | exact sub_nil | refine sub_cons rfl ?_) ?_)), ⟨.inl (by kernel_rfl), trivial⟩⟩ ?_))
       clear hK12
       refine aq_one (i := 16) (by kernel_rfl) rfl fun K13 hK13 => ?_
       refine ol_ixo (id := 5000) encI _ rfl rfl rfl rfl sl61 (by omega) rfl fun x52 hx52 => ?_
       try simp only [Int.toNat_natCast] at hx52
       try simp only [Int.toNat_natCast] at hx52
       refine ol_nil (to_k0 (fun _ _ h => h) (hK13 _ _ ⟨.inr (by repeat' first | exact subH_nil | refine subH_same rfl ?_ | (refine subH_blk rfl (by repeat' first | exact sub_nil | refine sub_cons rfl ?_) ?_)), ⟨.inl (by kernel_rfl), trivial⟩⟩ ?_))
       clear hK13
       refine aq_one (i := 17) (by kernel_rfl) rfl fun K14 hK14 => ?_
       refine ol_storeRow (id := 5000) _ _ _ rfl rfl rfl rfl sz3 (by omega) ?_
       refine ol_nil (to_k0 (fun _ _ h => h) (hK14 _ _ ⟨.inr (by repeat' first | exact subH_nil | refine subH_same rfl ?_ | (refine subH_blk rfl (by repeat' first | exact sub_nil | refine sub_cons rfl ?_) ?_)), ⟨.inl (by kernel_rfl), trivial⟩⟩ ?_))
       clear hK14
       refine aq_done (by kernel_rfl) ?_
       refine (to_k0 (fun _ _ h => h) (hK10 _ _ _ _ _ ?_))
       clear hK10
       refine wp_reg ?_
       refine ol_r (r_move rfl) rfl ?_
       refine ol_r (r_subT (j - 1) rfl rfl (by omega) (by omega)) rfl ?_
       refine ol_r (r_assign rfl) rfl ?_
       refine ol_nil (to_k0 (fun _ _ h => h) (hK7 ((_, sw2 G j (j - 1))) _ _ ?_ ?_ (sub_cons rfl sub_nil) (sub_cons rfl (sub_cons rfl (sub_cons rfl (sub_cons rfl (sub_cons rfl sub_nil))))) (by exact (subH_row rfl (by first | (dsimp only; (rw [sw_row (i := j) (j := j - 1) (by omega) (by omega) ⟨_, by omega, hx45⟩ ⟨_, by omega, hx49⟩]); done) | ((rw [sw_row (i := j) (j := j - 1) (by omega) (by omega) ⟨_, by omega, hx45⟩ ⟨_, by omega, hx49⟩]); done) | (dsimp only; done)) subH_nil)) (subH_same rfl (subH_same rfl (subH_same rfl (subH_same rfl (subH_same rfl (subH_same rfl (subH_same rfl (subH_same rfl (subH_same rfl (subH_same rfl subH_nil))))))))))))
       ·try dsimp only
        exact ⟨by omega, by omega, hI.step (by omega) hj2 (ltC_t (by rw [tab_eq hx25', tab_eq hx30']; exact hc34))⟩
       ·try dsimp only
        omega
      ·refine wp_exit' (to_k0 (fun _ _ h => h) (hK5 _ _ _ _ _ ?_))
       clear hK5
       refine wp_reg ?_
       refine ol_r (r_move rfl) rfl ?_
       refine ol_r (r_addT (i + 1) rfl rfl (by omega) (by omega)) rfl ?_
       refine ol_r (r_assign rfl) rfl ?_
       refine ol_nil (to_k0 (fun _ _ h => h) (hK2 ((_, _)) _ _ ?_ ?_ (sub_cons rfl sub_nil) (sub_cons rfl (sub_cons rfl (sub_cons rfl (sub_cons rfl sub_nil)))) (by exact (subH_row rfl (by first | (dsimp only; rfl; done) | (rfl; done) | (dsimp only; done)) subH_nil)) (subH_same rfl (subH_same rfl (subH_same rfl (subH_same rfl (subH_same rfl (subH_same rfl (subH_same rfl (subH_same rfl (subH_same rfl (subH_same rfl subH_nil))))))))))))
       ·try dsimp only
        exact ⟨by omega, by omega, hI.stop hw hj1 hj2 (by first | exact .inl (by omega) | exact .inr (ltC_f (by rw [tab_eq hx25', tab_eq hx30']; exact hc34))), hF2s.trans hI.sa, fun x hx => by rw [hI.out x (by omega)]; exact hF3 x (by omega)⟩
       ·try dsimp only
        omega
     ·have phs21 := hs21; try simp only [decide_eq_true_eq, decide_eq_false_iff_not, Bool.not_eq_true', Bool.not_eq_false', Bool.not_true, Bool.not_false] at phs21
      refine ql_s rfl rfl hs21 rfl ?_
      refine ql_s rfl rfl hs21 rfl ?_
      refine ql_s rfl rfl hs21 rfl ?_
      refine ql_s rfl rfl hs21 rfl ?_
      refine ql_s rfl rfl hs21 rfl ?_
      refine ql_s rfl rfl hs21 rfl ?_
      refine ql_s rfl rfl hs21 rfl ?_
      refine ql_s rfl rfl hs21 rfl ?_
      refine ql_s rfl rfl hs21 rfl ?_
      refine ql_s rfl rfl hs21 rfl ?_
      refine ql_s rfl rfl hs21 rfl ?_
      refine ql_s rfl rfl hs21 rfl ?_
      refine ql_r (r_pickF rfl hs21 rfl) rfl ?_
      refine ql_nil (to_k0 (fun _ _ h => h) (hK9 _ _ _ _ _ ?_))
      clear hK9
      refine wp_condF rfl ?_
      refine wp_exit' (to_k0 (fun _ _ h => h) (hK5 _ _ _ _ _ ?_))
      clear hK5
      refine wp_reg ?_
      refine ol_r (r_move rfl) rfl ?_
      refine ol_r (r_addT (i + 1) rfl rfl (by omega) (by omega)) rfl ?_
      refine ol_r (r_assign rfl) rfl ?_
      refine ol_nil (to_k0 (fun _ _ h => h) (hK2 ((_, _)) _ _ ?_ ?_ (sub_cons rfl sub_nil) (sub_cons rfl (sub_cons rfl (sub_cons rfl (sub_cons rfl sub_nil)))) (by exact (subH_row rfl (by first | (dsimp only; rfl; done) | (rfl; done) | (dsimp only; done)) subH_nil)) (subH_same rfl (subH_same rfl (subH_same rfl (subH_same rfl (subH_same rfl (subH_same rfl (subH_same rfl (subH_same rfl (subH_same rfl (subH_same rfl subH_nil))))))))))))
      ·try dsimp only
       exact ⟨by omega, by omega, hI.stop hw hj1 hj2 (by first | exact .inl (by omega) | exact .inr (ltC_f (by rw [tab_eq hx25', tab_eq hx30']; exact hc34))), hF2s.trans hI.sa, fun x hx => by rw [hI.out x (by omega)]; exact hF3 x (by omega)⟩
      ·try dsimp only
       omega
   ·refine wp_exit' (hQ.fall rvs0 (fun _ _ h => h) fun w hb hs hB hkd => ?_)
    refine ⟨F, rfl, hb, hs.sub (subH_same rfl (subH_same rfl (subH_same rfl (subH_same rfl (subH_same rfl (subH_same rfl (subH_same rfl (subH_same rfl (subH_same rfl (subH_same rfl (subH_same rfl subH_nil))))))))))), hB, hkd, ?_⟩
    rcases hi2 with h | h
    · obtain rfl : i = q := by omega
      exact ⟨hF1, hF2, hF3⟩
    · subst h
      have hFf : F = f := by
        funext x
        by_cases hx : x = p
        · subst hx
          obtain ⟨y, y1, y2, y3⟩ := hF2.2 x (Nat.le_refl _) (by omega)
          rw [y3]; congr 1; omega
        · exact hF3 x (by omega)
      subst hFf
      exact ⟨fun x y h2 h3 h4 => by omega, SaS.refl _ _ _, fun _ _ => rfl⟩

theorem symMerge_w (cf : Int → Int → Int) (Good : Int → Prop) (B : Nat) (cb : Nat) (a : Option Addr) (n c : Nat) (e1 e2 e3 e4 e5 e6 e7 e8 e9 e10 : Ent) (hw : Swo (ltC cf)) (hn : n ≤ 1000000) (hcmp : ∀ (w1 : World) (x y : Int), Good x → Good y → Sat B w1 [(5001, e1), (5002, e2)] → B ≤ w1.heap.size → Calls Try.prog 122 #[.int .i64 x, .int .i64 y, .pointer (some ⟨cb, 0, none⟩)] w1 fun e w' => e = .returned (.int .i64 (cf x y)) ∧ Below w1.heap.size w1 w') : ∀ (N : Nat) (p m q : Nat) (f : Nat → Int) (w : World), q - p ≤ N → B ≤ w.heap.size → p < m → m < q → q ≤ n → (∀ i, i < n → Good (f i)) → MrgI (ltC cf) f p m q → Sat B w [(5000, .row a n c (encI.enc (tab n f)) 3 1), (5001, e1), (5002, e2), (5003, e3), (5004, e4), (5005, e5), (5006, e6), (5007, e7), (5008, e8), (5009, e9), (5010, e10)] →
    Calls Try.prog 145 #[.slice a n c, .int .i64 p, .int .i64 m, .int .i64 q, .func (.func 122) #[] #[.pointer (some ⟨cb, 0, none⟩)]] w fun e w' => ∃ g, e = .returned (.tuple #[]) ∧ Below B w w' ∧ Sat B w' [(5000, .row a n c (encI.enc (tab n g)) 3 1), (5001, e1), (5002, e2), (5003, e3), (5004, e4), (5005, e5), (5006, e6), (5007, e7), (5008, e8), (5009, e9), (5010, e10)] ∧ B ≤ w'.heap.size ∧ Kd (fun _ => False) w w' ∧ Blo (ltC cf) f g p q := by
  intro N
  induction N with
  | zero => intro p m q f w h1 h2 h3 h4; omega
  | succ N ih =>
  intro p m q f w hN hB h1 h2 h3 hG hM hs
  have hfl := tab_len n f

  refine enterQ (N := 220) (C := fun _ => False) (H := [(5000, .row a n c (encI.enc (tab n f)) 3 1), (5001, e1), (5002, e2), (5003, e3), (5004, e4), (5005, e5), (5006, e6), (5007, e7), (5008, e8), (5009, e9), (5010, e10)]) (B := B) (args := [_, _, _, _, _]) Try.func145 rfl rfl rfl (hB) (hs) fun Q hQ => ?_
  refine wp_seq' fun K1 hK1 => ?_
  refine wp_seq' fun K2 hK2 => ?_
  refine wp_reg ?_
  refine ol_r (r_move rfl) rfl ?_
  refine ol_r (r_move rfl) rfl ?_
  refine ol_r (r_sub rfl rfl (by omega)) rfl ?_
  refine ol_r (r_eql rfl rfl) rfl ?_
  refine ol_nil (to_k0 (fun _ _ h => h) (hK2 _ _ _ _ _ ?_))
  clear hK2
  first | refine wp_condD rfl (fun hc28 => ?_) (fun hc28 => ?_) | refine wp_condN rfl (fun hc28 => ?_) (fun hc28 => ?_) | refine wp_condNB rfl (fun hc28 => ?_) (fun hc28 => ?_) | refine wp_cond' rfl (fun hc28 => ?_) (fun hc28 => ?_)
  ·refine wp_seq' fun K3 hK3 => ?_
   refine wp_reg ?_
   refine ol_r (r_move rfl) rfl ?_
   refine ol_r (r_assign rfl) rfl ?_
   refine ol_nil (to_k0 (fun _ _ h => h) (hK3 _ _ _ _ _ ?_))
   clear hK3
   refine wp_seq' fun K4 hK4 => ?_
   refine wp_reg ?_
   refine ol_r (r_move rfl) rfl ?_
   refine ol_r (r_assign rfl) rfl ?_
   refine ol_nil (to_k0 (fun _ _ h => h) (hK4 _ _ _ _ _ ?_))
   clear hK4
   refine wp_seq' fun K5 hK5 => ?_
   refine wp_block' ?_
   apply wp_loopM (σ := Nat × Nat) (fun s => m ≤ s.1 ∧ s.1 ≤ s.2 ∧ s.2 ≤ q ∧ (∀ x, m ≤ x → x < s.1 → ltC cf (f x) (f p) = true) ∧ (∀ x, s.2 ≤ x → x < q → ltC cf (f x) (f p) = false)) (fun s => [(10, .int .i64 s.1), (11, .int .i64 s.2)]) [(0, _), (1, _), (2, _), (3, _), (4, _)] (fun s => []) [(5000, _), (5001, _), (5002, _), (5003, _), (5004, _), (5005, _), (5006, _), (5007, _), (5008, _), (5009, _), (5010, _)] (fun s => s.2 - s.1) ((m, q))
   ·try dsimp only
    exact ⟨Nat.le_refl _, by omega, Nat.le_refl _, fun x h4 h5 => by omega, fun x h4 h5 => by omega⟩
   ·exact (sub_cons rfl (sub_cons rfl sub_nil))
   ·exact (sub_cons rfl (sub_cons rfl (sub_cons rfl (sub_cons rfl (sub_cons rfl sub_nil)))))
   ·exact subH_nil
   ·exact (subH_same rfl (subH_same rfl (subH_same rfl (subH_same rfl (subH_same rfl (subH_same rfl (subH_same rfl (subH_same rfl (subH_same rfl (subH_same rfl (subH_same rfl subH_nil)))))))))))
   ·rintro ⟨i, j⟩ ⟨hi, hij, hj, hlo, hhi⟩
    dsimp only at hi hij hj hlo hhi ⊢
    intro K6 hK6
    refine wp_seq' fun K7 hK7 => ?_
    refine wp_seq' fun K8 hK8 => ?_
    refine wp_reg ?_
    refine ol_r (r_move rfl) rfl ?_
    refine ol_r (r_move rfl) rfl ?_
    refine ol_r (r_lss rfl rfl) rfl ?_
    refine ol_nil (to_k0 (fun _ _ h => h) (hK8 _ _ _ _ _ ?_))
    clear hK8
    first | refine wp_condD rfl (fun hc33 => ?_) (fun hc33 => ?_) | refine wp_condN rfl (fun hc33 => ?_) (fun hc33 => ?_) | refine wp_condNB rfl (fun hc33 => ?_) (fun hc33 => ?_) | refine wp_cond' rfl (fun hc33 => ?_) (fun hc33 => ?_)
    ·refine wp_skip' (to_k0 (fun _ _ h => h) (hK7 _ _ _ _ _ ?_))
     clear hK7
     refine wp_block' ?_
     refine wp_seq' fun K9 hK9 => ?_
     refine wp_reg ?_
     refine ol_r (r_move rfl) rfl ?_
     refine ol_r (r_move rfl) rfl ?_
     refine ol_r (r_add rfl rfl (by omega)) rfl ?_
     refine ol_r (r_conv (k2 := .u64) rfl (by kernel_rfl) (by kernel_rfl) (wrap_u64 (by omega))) rfl ?_
     refine ol_r (r_shr1 rfl rfl) rfl ?_
     refine ol_r (r_conv (k2 := .i64) rfl (by kernel_rfl) (by kernel_rfl) (IntWalk.i64_in _ (by omega))) rfl ?_
     obtain ⟨h, hh⟩ : ∃ h : Nat, ((i : Int) + (j : Int)) / 2 = h := ⟨(i + j) / 2, by omega⟩
     rw [hh]
     refine ol_r (r_assign rfl) rfl ?_
     refine ol_nil (to_k0 (fun _ _ h => h) (hK9 _ _ _ _ _ ?_))
     clear hK9
     refine wp_seq' fun K10 hK10 => ?_
     refine wp_regq (by kernel_rfl) (by kernel_rfl) ?_
     refine ql_r (r_move rfl) rfl ?_
     refine ql_r (r_move rfl) rfl ?_
     refine ql_r (r_move rfl) rfl ?_
     refine ql_ixo (id := 5000) encI _ rfl rfl rfl rfl sl61 (by omega) (by omega) rfl fun x43 hx43 => ?_
     try simp only [Int.toNat_natCast] at hx43
     try simp only [Int.toNat_natCast] at hx43
     refine ql_r (r_ldw rfl (fun w1 hb1 hs1 hB1 => show Loads _ _ _ _ (.int .i64 x43) from ld_own (id := 5000) hs1 rfl rfl ty3 hx43)) rfl ?_
     refine ql_r (r_move rfl) rfl ?_
     refine ql_r (r_move rfl) rfl ?_
     refine ql_ixo (id := 5000) encI _ rfl rfl rfl rfl sl61 (by omega) (by omega) rfl fun x47 hx47 => ?_
     try simp only [Int.toNat_natCast] at hx47
     try simp only [Int.toNat_natCast] at hx47
     refine ql_r (r_ldw rfl (fun w1 hb1 hs1 hB1 => show Loads _ _ _ _ (.int .i64 x47) from ld_own (id := 5000) hs1 rfl rfl ty3 hx47)) rfl ?_
     refine ql_call rfl rfl cb122 rfl (fun w1 hb1 hs1 hB1 => hcmp _ _ _ (by rw [← tab_eq hx43]; exact hG _ (by omega)) (by rw [← tab_eq hx47]; exact hG _ (by omega)) (hs1.sub (subH_same rfl (subH_same rfl subH_nil))) hB1) ?_
     refine ql_r (r_lss rfl rfl) rfl ?_
     refine ql_nil (to_k0 (fun _ _ h => h) (hK10 _ _ _ _ _ ?_))
     clear hK10
     first | refine wp_condD rfl (fun hc50 => ?_) (fun hc50 => ?_) | refine wp_condN rfl (fun hc50 => ?_) (fun hc50 => ?_) | refine wp_condNB rfl (fun hc50 => ?_) (fun hc50 => ?_) | refine wp_cond' rfl (fun hc50 => ?_) (fun hc50 => ?_)
     ·refine wp_reg ?_
      refine ol_r (r_move rfl) rfl ?_
      refine ol_r (r_addT (h + 1) rfl rfl (by omega) (by omega)) rfl ?_
      refine ol_r (r_assign rfl) rfl ?_
      refine ol_nil (to_k0 (fun _ _ h => h) (hK6 ((_, _)) _ _ ?_ ?_ (sub_cons rfl (sub_cons rfl sub_nil)) (sub_cons rfl (sub_cons rfl (sub_cons rfl (sub_cons rfl (sub_cons rfl sub_nil))))) (by exact subH_nil) (subH_same rfl (subH_same rfl (subH_same rfl (subH_same rfl (subH_same rfl (subH_same rfl (subH_same rfl (subH_same rfl (subH_same rfl (subH_same rfl (subH_same rfl subH_nil)))))))))))))
      ·try dsimp only
       first
         | exact ⟨by omega, by omega, by omega, fun x x1 x2 => by
             have hc : ltC cf (f h) (f p) = true := ltC_t (by rw [tab_eq hx43, tab_eq hx47]; exact hc50)
             by_cases hx : x = h
             · rw [hx]; exact hc
             · exact RR.lt_left hw (hM.r x h x1 (by omega) (by omega)) hc, hhi⟩
         | exact ⟨by omega, by omega, by omega, hlo, fun x x1 x2 => by
             have hc : ltC cf (f h) (f p) = false := ltC_f (by rw [tab_eq hx43, tab_eq hx47]; exact hc50)
             by_cases hx : x = h
             · rw [hx]; exact hc
             · cases h9 : ltC cf (f x) (f p) with
               | false => rfl
               | true => have := RR.lt_left hw (hM.r h x (by omega) (by omega) x2) h9; rw [hc] at this; cases this⟩
      ·try dsimp only
       omega
     ·refine wp_reg ?_
      refine ol_r (r_move rfl) rfl ?_
      refine ol_r (r_assign rfl) rfl ?_
      refine ol_nil (to_k0 (fun _ _ h => h) (hK6 ((_, _)) _ _ ?_ ?_ (sub_cons rfl (sub_cons rfl sub_nil)) (sub_cons rfl (sub_cons rfl (sub_cons rfl (sub_cons rfl (sub_cons rfl sub_nil))))) (by exact subH_nil) (subH_same rfl (subH_same rfl (subH_same rfl (subH_same rfl (subH_same rfl (subH_same rfl (subH_same rfl (subH_same rfl (subH_same rfl (subH_same rfl (subH_same rfl subH_nil)))))))))))))
      ·try dsimp only
       first
         | exact ⟨by omega, by omega, by omega, fun x x1 x2 => by
             have hc : ltC cf (f h) (f p) = true := ltC_t (by rw [tab_eq hx43, tab_eq hx47]; exact hc50)
             by_cases hx : x = h
             · rw [hx]; exact hc
             · exact RR.lt_left hw (hM.r x h x1 (by omega) (by omega)) hc, hhi⟩
         | exact ⟨by omega, by omega, by omega, hlo, fun x x1 x2 => by
             have hc : ltC cf (f h) (f p) = false := ltC_f (by rw [tab_eq hx43, tab_eq hx47]; exact hc50)
             by_cases hx : x = h
             · rw [hx]; exact hc
             · cases h9 : ltC cf (f x) (f p) with
               | false => rfl
               | true => have := RR.lt_left hw (hM.r h x (by omega) (by omega) x2) h9; rw [hc] at this; cases this⟩
      ·try dsimp only
       omega
    ·refine wp_exit' (to_k0 (fun _ _ h => h) (hK5 _ _ _ _ _ ?_))
     clear hK5
     refine wp_seq' fun K11 hK11 => ?_
     refine wp_seq' fun K12 hK12 => ?_
     refine wp_reg ?_
     obtain rfl : i = j := by omega
     refine ol_r (r_move rfl) rfl ?_
     refine ol_r (r_assign rfl) rfl ?_
     refine ol_nil (to_k0 (fun _ _ h => h) (hK12 _ _ _ _ _ ?_))
     clear hK12
     refine wp_block' ?_
     apply wp_loopM (σ := Nat) (fun s => p ≤ s ∧ s ≤ i - 1) (fun s => [(13, .int .i64 s)]) [(0, _), (1, _), (2, _), (3, _), (4, _), (10, _)] (fun s => [(5000, .row a n c (encI.enc (tab n (mvR f p s))) 3 1)]) [(5001, _), (5002, _), (5003, _), (5004, _), (5005, _), (5006, _), (5007, _), (5008, _), (5009, _), (5010, _)] (fun s => i - s) (p)
     ·try dsimp only
      exact ⟨Nat.le_refl _, by omega⟩
     ·exact (sub_cons rfl sub_nil)
     ·exact (sub_cons rfl (sub_cons rfl (sub_cons rfl (sub_cons rfl (sub_cons rfl (sub_cons rfl sub_nil))))))
     ·exact (subH_row rfl (by first | (dsimp only; rw [mvR_start]; done) | (rw [mvR_start]; done) | (dsimp only; done)) subH_nil)
     ·exact (subH_same rfl (subH_same rfl (subH_same rfl (subH_same rfl (subH_same rfl (subH_same rfl (subH_same rfl (subH_same rfl (subH_same rfl (subH_same rfl subH_nil))))))))))
     ·rintro k ⟨hk1, hk2⟩
      have hFl := tab_len n (mvR f p k)
      intro K13 hK13
      refine wp_seq' fun K14 hK14 => ?_
      refine wp_seq' fun K15 hK15 => ?_
      refine wp_reg ?_
      refine ol_r (r_move rfl) rfl ?_
      refine ol_r (r_move rfl) rfl ?_
      refine ol_r (r_sub rfl rfl (by omega)) rfl ?_
      refine ol_r (r_lss rfl rfl) rfl ?_
      refine ol_nil (to_k0 (fun _ _ h => h) (hK15 _ _ _ _ _ ?_))
      clear hK15
      first | refine wp_condD rfl (fun hc58 => ?_) (fun hc58 => ?_) | refine wp_condN rfl (fun hc58 => ?_) (fun hc58 => ?_) | refine wp_condNB rfl (fun hc58 => ?_) (fun hc58 => ?_) | refine wp_cond' rfl (fun hc58 => ?_) (fun hc58 => ?_)
      ·refine wp_skip' (to_k0 (fun _ _ h => h) (hK14 _ _ _ _ _ ?_))
       clear hK14
       refine wp_seq' fun K16 hK16 => ?_
       refine wp_block' ?_
       refine wp_rega [(999, [(5001, _), (5002, _), (5003, _), (5004, _), (5005, _), (5006, _), (5007, _), (5008, _), (5009, _), (5010, _)]), (15, [(5000, _)])] (by kernel_rfl) ⟨.inr (subH_same rfl (subH_same rfl (subH_same rfl (subH_same rfl (subH_same rfl (subH_same rfl (subH_same rfl (subH_same rfl (subH_same rfl (subH_same rfl subH_nil)))))))))), ⟨.inr (subH_same rfl subH_nil), trivial⟩⟩ ?_
       refine aq_r 0 999 rfl (by kernel_rfl) (by kernel_rfl) (by kernel_rfl) (.head _) (by kernel_rfl) (by kernel_rfl) rfl (r_move rfl) ?_
       refine aq_r 1 999 rfl (by kernel_rfl) (by kernel_rfl) (by kernel_rfl) (.head _) (by kernel_rfl) (by kernel_rfl) rfl (r_move rfl) ?_
       refine aq_r 2 999 rfl (by kernel_rfl) (by kernel_rfl) (by kernel_rfl) (.head _) (by kernel_rfl) (by kernel_rfl) rfl (r_move rfl) ?_
       refine aq_r 3 999 rfl (by kernel_rfl) (by kernel_rfl) (by kernel_rfl) (.head _) (by kernel_rfl) (by kernel_rfl) rfl (r_move rfl) ?_
       refine aq_r 4 999 rfl (by kernel_rfl) (by kernel_rfl) (by kernel_rfl) (.head _) (by kernel_rfl) (by kernel_rfl) rfl (r_add rfl rfl (by omega)) ?_
       refine aq_r 5 999 rfl (by kernel_rfl) (by kernel_rfl) (by kernel_rfl) (.head _) (by kernel_rfl) (by kernel_rfl) rfl (r_move rfl) ?_
       refine aq_r 6 999 rfl (by kernel_rfl) (by kernel_rfl) (by kernel_rfl) (.head _) (by kernel_rfl) (by kernel_rfl) rfl (r_move rfl) ?_
       refine aq_r 7 999 rfl (by kernel_rfl) (by kernel_rfl) (by kernel_rfl) (.head _) (by kernel_rfl) (by kernel_rfl) rfl (r_add rfl rfl (by omega)) ?_
       refine aq_ixo 8 15 rfl (by kernel_rfl) (by kernel_rfl) (by kernel_rfl) (.tail _ (.head _)) (by kernel_rfl) (by kernel_rfl) rfl (id := 5000) encI _ rfl rfl rfl rfl sl61 (by omega) (by omega) fun x69 hx69 => ?_
       try simp only [Int.toNat_natCast] at hx69
       try simp only [Int.toNat_natCast] at hx69
       refine aq_r 9 15 rfl (by kernel_rfl) (by kernel_rfl) (by kernel_rfl) (.tail _ (.head _)) (by kernel_rfl) (by kernel_rfl) rfl (r_ldw rfl (fun w1 hb1 hs1 hB1 => show Loads _ _ _ _ (.int .i64 x69) from ld_own (id := 5000) hs1 rfl rfl ty3 hx69)) ?_
       refine aq_r 10 999 rfl (by kernel_rfl) (by kernel_rfl) (by kernel_rfl) (.head _) (by kernel_rfl) (by kernel_rfl) rfl (r_move rfl) ?_
       refine aq_r 11 999 rfl (by kernel_rfl) (by kernel_rfl) (by kernel_rfl) (.head _) (by kernel_rfl) (by kernel_rfl) rfl (r_move rfl) ?_
       refine aq_one (i := 12) (by kernel_rfl) rfl fun K17 hK17 => ?_
       refine ol_ixo (id := 5000) encI _ rfl rfl rfl rfl sl61 (by omega) rfl fun x73 hx73 => ?_
       try simp only [Int.toNat_natCast] at hx73
       try simp only [Int.toNat_natCast] at hx73
       refine ol_nil (to_k0 (fun _ _ h => h) (hK17 _ _ ⟨.inr (by repeat' first | exact subH_nil | refine subH_same rfl ?_ | (refine subH_blk rfl (by repeat' first | exact sub_nil | refine sub_cons rfl ?_) ?_)), ⟨.inr (by repeat' first | exact subH_nil | refine subH_same rfl ?_ | (refine subH_blk rfl (by repeat' first | exact sub_nil | refine sub_cons rfl ?_) ?_)), trivial⟩⟩ ?_))
       clear hK17
       refine aq_r 13 15 rfl (by kernel_rfl) (by kernel_rfl) (by kernel_rfl) (.tail _ (.head _)) (by kernel_rfl) (by kernel_rfl) rfl (r_ldw rfl (fun w1 hb1 hs1 hB1 => show Loads _ _ _ _ (.int .i64 x73) from ld_own (id := 5000) hs1 rfl rfl ty3 hx73)) ?_
       refine aq_ixo 14 15 rfl (by kernel_rfl) (by kernel_rfl) (by kernel_rfl) (.tail _ (.head _)) (by kernel_rfl) (by kernel_rfl) rfl (id := 5000) encI _ rfl rfl rfl rfl sl61 (by omega) (by omega) fun x75 hx75 => ?_
       try simp only [Int.toNat_natCast] at hx75
       try simp only [Int.toNat_natCast] at hx75
       refine aq_one (i := 15) (by kernel_rfl) rfl fun K18 hK18 => ?_
       refine ol_storeRow (id := 5000) _ _ _ rfl rfl rfl rfl sz3 (by omega) ?_
       refine ol_nil (to_k0 (fun _ _ h => h) (hK18 _ _ ⟨.inr (by repeat' first | exact subH_nil | refine subH_same rfl ?_ | (refine subH_blk rfl (by repeat' first | exact sub_nil | refine sub_cons rfl ?_) ?_)), ⟨.inl (by kernel_rfl), trivial⟩⟩ ?_))
       clear hK18
       refine aq_one (i := 16) (by kernel_rfl) rfl fun K19 hK19 => ?_
       refine ol_ixo (id := 5000) encI _ rfl rfl rfl rfl sl61 (by omega) rfl fun x76 hx76 => ?_
       try simp only [Int.toNat_natCast] at hx76
       try simp only [Int.toNat_natCast] at hx76
       refine ol_nil (to_k0 (fun _ _ h => h) (hK19 _ _ ⟨.inr (by repeat' first | exact subH_nil | refine subH_same rfl ?_ | (refine subH_blk rfl (by repeat' first | exact sub_nil | refine sub_cons rfl ?_) ?_)), ⟨.inl (by kernel_rfl), trivial⟩⟩ ?_))
       clear hK19
       refine aq_one (i := 17) (by kernel_rfl) rfl fun K20 hK20 => ?_
       refine ol_storeRow (id := 5000) _ _ _ rfl rfl rfl rfl sz3 (by omega) ?_
       refine ol_nil (to_k0 (fun _ _ h => h) (hK20 _ _ ⟨.inr (by repeat' first | exact subH_nil | refine subH_same rfl ?_ | (refine subH_blk rfl (by repeat' first | exact sub_nil | refine sub_cons rfl ?_) ?_)), ⟨.inl (by kernel_rfl), trivial⟩⟩ ?_))
       clear hK20
       refine aq_done (by kernel_rfl) ?_
       refine (to_k0 (fun _ _ h => h) (hK16 _ _ _ _ _ ?_))
       clear hK16
       refine wp_reg ?_
       refine ol_r (r_move rfl) rfl ?_
       refine ol_r (r_addT (k + 1) rfl rfl (by omega) (by omega)) rfl ?_
       refine ol_r (r_assign rfl) rfl ?_
       refine ol_nil (to_k0 (fun _ _ h => h) (hK13 (k + 1) _ _ ?_ ?_ (sub_cons rfl sub_nil) (sub_cons rfl (sub_cons rfl (sub_cons rfl (sub_cons rfl (sub_cons rfl (sub_cons rfl sub_nil)))))) (by exact (subH_row rfl (by first | (dsimp only; (rw [← mvR_step (by omega), sw_row (i := k) (j := k + 1) (by omega) (by omega) ⟨_, by omega, hx69⟩ ⟨_, by omega, hx73⟩]); done) | ((rw [← mvR_step (by omega), sw_row (i := k) (j := k + 1) (by omega) (by omega) ⟨_, by omega, hx69⟩ ⟨_, by omega, hx73⟩]); done) | (dsimp only; done)) subH_nil)) (subH_same rfl (subH_same rfl (subH_same rfl (subH_same rfl (subH_same rfl (subH_same rfl (subH_same rfl (subH_same rfl (subH_same rfl (subH_same rfl subH_nil))))))))))))
       ·try dsimp only
        exact ⟨by omega, by omega⟩
       ·try dsimp only
        omega
      ·refine wp_exit' (to_k0 (fun _ _ h => h) (hK11 _ _ _ _ _ ?_))
       clear hK11
       refine hQ.ret rvs0 (fun _ _ h => h) fun w hb hs hB hkd => ?_
       exact ⟨_, rfl, hb, hs.sub (subH_same rfl (subH_same rfl (subH_same rfl (subH_same rfl (subH_same rfl (subH_same rfl (subH_same rfl (subH_same rfl (subH_same rfl (subH_same rfl (subH_same rfl subH_nil))))))))))), hB, hkd, by
         obtain rfl : k = i - 1 := by omega
         obtain rfl : m = p + 1 := by omega
         exact mvR_blo hw hM hi hj hlo hhi⟩
  ·refine wp_skip' (to_k0 (fun _ _ h => h) (hK1 _ _ _ _ _ ?_))
   clear hK1
   refine wp_seq' fun K21 hK21 => ?_
   refine wp_seq' fun K22 hK22 => ?_
   refine wp_reg ?_
   refine ol_r (r_move rfl) rfl ?_
   refine ol_r (r_move rfl) rfl ?_
   refine ol_r (r_sub rfl rfl (by omega)) rfl ?_
   refine ol_r (r_eql rfl rfl) rfl ?_
   refine ol_nil (to_k0 (fun _ _ h => h) (hK22 _ _ _ _ _ ?_))
   clear hK22
   first | refine wp_condD rfl (fun hc80 => ?_) (fun hc80 => ?_) | refine wp_condN rfl (fun hc80 => ?_) (fun hc80 => ?_) | refine wp_condNB rfl (fun hc80 => ?_) (fun hc80 => ?_) | refine wp_cond' rfl (fun hc80 => ?_) (fun hc80 => ?_)
   ·refine wp_seq' fun K23 hK23 => ?_
    refine wp_reg ?_
    refine ol_r (r_move rfl) rfl ?_
    refine ol_r (r_assign rfl) rfl ?_
    refine ol_nil (to_k0 (fun _ _ h => h) (hK23 _ _ _ _ _ ?_))
    clear hK23
    refine wp_seq' fun K24 hK24 => ?_
    refine wp_reg ?_
    refine ol_r (r_move rfl) rfl ?_
    refine ol_r (r_assign rfl) rfl ?_
    refine ol_nil (to_k0 (fun _ _ h => h) (hK24 _ _ _ _ _ ?_))
    clear hK24
    refine wp_seq' fun K25 hK25 => ?_
    refine wp_block' ?_
    apply wp_loopM (σ := Nat × Nat) (fun s => p ≤ s.1 ∧ s.1 ≤ s.2 ∧ s.2 ≤ m ∧ (∀ x, p ≤ x → x < s.1 → ltC cf (f m) (f x) = false) ∧ (∀ x, s.2 ≤ x → x < m → ltC cf (f m) (f x) = true)) (fun s => [(14, .int .i64 s.1), (15, .int .i64 s.2)]) [(0, _), (1, _), (2, _), (3, _), (4, _)] (fun s => []) [(5000, _), (5001, _), (5002, _), (5003, _), (5004, _), (5005, _), (5006, _), (5007, _), (5008, _), (5009, _), (5010, _)] (fun s => s.2 - s.1) ((p, m))
    ·try dsimp only
     exact ⟨Nat.le_refl _, by omega, Nat.le_refl _, fun x h4 h5 => by omega, fun x h4 h5 => by omega⟩
    ·exact (sub_cons rfl (sub_cons rfl sub_nil))
    ·exact (sub_cons rfl (sub_cons rfl (sub_cons rfl (sub_cons rfl (sub_cons rfl sub_nil)))))
    ·exact subH_nil
    ·exact (subH_same rfl (subH_same rfl (subH_same rfl (subH_same rfl (subH_same rfl (subH_same rfl (subH_same rfl (subH_same rfl (subH_same rfl (subH_same rfl (subH_same rfl subH_nil)))))))))))
    ·rintro ⟨i, j⟩ ⟨hi, hij, hj, hlo, hhi⟩
     dsimp only at hi hij hj hlo hhi ⊢
     intro K26 hK26
     refine wp_seq' fun K27 hK27 => ?_
     refine wp_seq' fun K28 hK28 => ?_
     refine wp_reg ?_
     refine ol_r (r_move rfl) rfl ?_
     refine ol_r (r_move rfl) rfl ?_
     refine ol_r (r_lss rfl rfl) rfl ?_
     refine ol_nil (to_k0 (fun _ _ h => h) (hK28 _ _ _ _ _ ?_))
     clear hK28
     first | refine wp_condD rfl (fun hc85 => ?_) (fun hc85 => ?_) | refine wp_condN rfl (fun hc85 => ?_) (fun hc85 => ?_) | refine wp_condNB rfl (fun hc85 => ?_) (fun hc85 => ?_) | refine wp_cond' rfl (fun hc85 => ?_) (fun hc85 => ?_)
     ·refine wp_skip' (to_k0 (fun _ _ h => h) (hK27 _ _ _ _ _ ?_))
      clear hK27
      refine wp_block' ?_
      refine wp_seq' fun K29 hK29 => ?_
      refine wp_reg ?_
      refine ol_r (r_move rfl) rfl ?_
      refine ol_r (r_move rfl) rfl ?_
      refine ol_r (r_add rfl rfl (by omega)) rfl ?_
      refine ol_r (r_conv (k2 := .u64) rfl (by kernel_rfl) (by kernel_rfl) (wrap_u64 (by omega))) rfl ?_
      refine ol_r (r_shr1 rfl rfl) rfl ?_
      refine ol_r (r_conv (k2 := .i64) rfl (by kernel_rfl) (by kernel_rfl) (IntWalk.i64_in _ (by omega))) rfl ?_
      obtain ⟨h, hh⟩ : ∃ h : Nat, ((i : Int) + (j : Int)) / 2 = h := ⟨(i + j) / 2, by omega⟩
      rw [hh]
      refine ol_r (r_assign rfl) rfl ?_
      refine ol_nil (to_k0 (fun _ _ h => h) (hK29 _ _ _ _ _ ?_))
      clear hK29
      refine wp_seq' fun K30 hK30 => ?_
      refine wp_regq (by kernel_rfl) (by kernel_rfl) ?_
      refine ql_r (r_move rfl) rfl ?_
      refine ql_r (r_move rfl) rfl ?_
      refine ql_r (r_move rfl) rfl ?_
      refine ql_ixo (id := 5000) encI _ rfl rfl rfl rfl sl61 (by omega) (by omega) rfl fun x95 hx95 => ?_
      try simp only [Int.toNat_natCast] at hx95
      try simp only [Int.toNat_natCast] at hx95
      refine ql_r (r_ldw rfl (fun w1 hb1 hs1 hB1 => show Loads _ _ _ _ (.int .i64 x95) from ld_own (id := 5000) hs1 rfl rfl ty3 hx95)) rfl ?_
      refine ql_r (r_move rfl) rfl ?_
      refine ql_r (r_move rfl) rfl ?_
      refine ql_ixo (id := 5000) encI _ rfl rfl rfl rfl sl61 (by omega) (by omega) rfl fun x99 hx99 => ?_
      try simp only [Int.toNat_natCast] at hx99
      try simp only [Int.toNat_natCast] at hx99
      refine ql_r (r_ldw rfl (fun w1 hb1 hs1 hB1 => show Loads _ _ _ _ (.int .i64 x99) from ld_own (id := 5000) hs1 rfl rfl ty3 hx99)) rfl ?_
      refine ql_call rfl rfl cb122 rfl (fun w1 hb1 hs1 hB1 => hcmp _ _ _ (by rw [← tab_eq hx95]; exact hG _ (by omega)) (by rw [← tab_eq hx99]; exact hG _ (by omega)) (hs1.sub (subH_same rfl (subH_same rfl subH_nil))) hB1) ?_
      refine ql_r (r_lss rfl rfl) rfl ?_
      refine ql_r (r_not rfl) rfl ?_
      refine ql_nil (to_k0 (fun _ _ h => h) (hK30 _ _ _ _ _ ?_))
      clear hK30
      first | refine wp_condD rfl (fun hc103 => ?_) (fun hc103 => ?_) | refine wp_condN rfl (fun hc103 => ?_) (fun hc103 => ?_) | refine wp_condNB rfl (fun hc103 => ?_) (fun hc103 => ?_) | refine wp_cond' rfl (fun hc103 => ?_) (fun hc103 => ?_)
      ·refine wp_reg ?_
       refine ol_r (r_move rfl) rfl ?_
       refine ol_r (r_addT (h + 1) rfl rfl (by omega) (by omega)) rfl ?_
       refine ol_r (r_assign rfl) rfl ?_
       refine ol_nil (to_k0 (fun _ _ h => h) (hK26 ((_, _)) _ _ ?_ ?_ (sub_cons rfl (sub_cons rfl sub_nil)) (sub_cons rfl (sub_cons rfl (sub_cons rfl (sub_cons rfl (sub_cons rfl sub_nil))))) (by exact subH_nil) (subH_same rfl (subH_same rfl (subH_same rfl (subH_same rfl (subH_same rfl (subH_same rfl (subH_same rfl (subH_same rfl (subH_same rfl (subH_same rfl (subH_same rfl subH_nil)))))))))))))
       ·try dsimp only
        first
          | exact ⟨by omega, by omega, by omega, fun x x1 x2 => (by
              have hc : ltC cf (f m) (f h) = false := ltC_f (by rw [tab_eq hx95, tab_eq hx99]; exact hc103)
              by_cases hx : x = h
              · rw [hx]; exact hc
              · cases h9 : ltC cf (f m) (f x) with
                | false => rfl
                | true => have := RR.lt_right hw (hM.l x h x1 (by omega) (by omega)) h9; rw [hc] at this; cases this), hhi⟩
          | exact ⟨by omega, by omega, by omega, hlo, fun x x1 x2 => by
              have hc : ltC cf (f m) (f h) = true := ltC_t (by rw [tab_eq hx95, tab_eq hx99]; exact hc103)
              by_cases hx : x = h
              · rw [hx]; exact hc
              · exact RR.lt_right hw (hM.l h x (by omega) (by omega) x2) hc⟩
       ·try dsimp only
        omega
      ·refine wp_reg ?_
       refine ol_r (r_move rfl) rfl ?_
       refine ol_r (r_assign rfl) rfl ?_
       refine ol_nil (to_k0 (fun _ _ h => h) (hK26 ((_, _)) _ _ ?_ ?_ (sub_cons rfl (sub_cons rfl sub_nil)) (sub_cons rfl (sub_cons rfl (sub_cons rfl (sub_cons rfl (sub_cons rfl sub_nil))))) (by exact subH_nil) (subH_same rfl (subH_same rfl (subH_same rfl (subH_same rfl (subH_same rfl (subH_same rfl (subH_same rfl (subH_same rfl (subH_same rfl (subH_same rfl (subH_same rfl subH_nil)))))))))))))
       ·try dsimp only
        first
          | exact ⟨by omega, by omega, by omega, fun x x1 x2 => (by
              have hc : ltC cf (f m) (f h) = false := ltC_f (by rw [tab_eq hx95, tab_eq hx99]; exact hc103)
              by_cases hx : x = h
              · rw [hx]; exact hc
              · cases h9 : ltC cf (f m) (f x) with
                | false => rfl
                | true => have := RR.lt_right hw (hM.l x h x1 (by omega) (by omega)) h9; rw [hc] at this; cases this), hhi⟩
          | exact ⟨by omega, by omega, by omega, hlo, fun x x1 x2 => by
              have hc : ltC cf (f m) (f h) = true := ltC_t (by rw [tab_eq hx95, tab_eq hx99]; exact hc103)
              by_cases hx : x = h
              · rw [hx]; exact hc
              · exact RR.lt_right hw (hM.l h x (by omega) (by omega) x2) hc⟩
       ·try dsimp only
        omega
     ·refine wp_exit' (to_k0 (fun _ _ h => h) (hK25 _ _ _ _ _ ?_))
      clear hK25
      refine wp_seq' fun K31 hK31 => ?_
      refine wp_seq' fun K32 hK32 => ?_
      refine wp_reg ?_
      obtain rfl : i = j := by omega
      obtain rfl : q = m + 1 := by omega
      refine ol_r (r_move rfl) rfl ?_
      refine ol_r (r_assign rfl) rfl ?_
      refine ol_nil (to_k0 (fun _ _ h => h) (hK32 _ _ _ _ _ ?_))
      clear hK32
      refine wp_block' ?_
      apply wp_loopM (σ := Nat) (fun s => i ≤ s ∧ s ≤ m) (fun s => [(17, .int .i64 s)]) [(0, _), (1, _), (2, _), (3, _), (4, _), (14, _)] (fun s => [(5000, .row a n c (encI.enc (tab n (mvL f s m))) 3 1)]) [(5001, _), (5002, _), (5003, _), (5004, _), (5005, _), (5006, _), (5007, _), (5008, _), (5009, _), (5010, _)] (fun s => s) (m)
      ·try dsimp only
       exact ⟨hj, Nat.le_refl _⟩
      ·exact (sub_cons rfl sub_nil)
      ·exact (sub_cons rfl (sub_cons rfl (sub_cons rfl (sub_cons rfl (sub_cons rfl (sub_cons rfl sub_nil))))))
      ·exact (subH_row rfl (by first | (dsimp only; rw [mvL_start]; done) | (rw [mvL_start]; done) | (dsimp only; done)) subH_nil)
      ·exact (subH_same rfl (subH_same rfl (subH_same rfl (subH_same rfl (subH_same rfl (subH_same rfl (subH_same rfl (subH_same rfl (subH_same rfl (subH_same rfl subH_nil))))))))))
      ·rintro k ⟨hk1, hk2⟩
       have hFl := tab_len n (mvL f k m)
       intro K33 hK33
       refine wp_seq' fun K34 hK34 => ?_
       refine wp_seq' fun K35 hK35 => ?_
       refine wp_reg ?_
       refine ol_r (r_move rfl) rfl ?_
       refine ol_r (r_move rfl) rfl ?_
       refine ol_r (r_gtr rfl rfl) rfl ?_
       refine ol_nil (to_k0 (fun _ _ h => h) (hK35 _ _ _ _ _ ?_))
       clear hK35
       first | refine wp_condD rfl (fun hc110 => ?_) (fun hc110 => ?_) | refine wp_condN rfl (fun hc110 => ?_) (fun hc110 => ?_) | refine wp_condNB rfl (fun hc110 => ?_) (fun hc110 => ?_) | refine wp_cond' rfl (fun hc110 => ?_) (fun hc110 => ?_)
       ·refine wp_skip' (to_k0 (fun _ _ h => h) (hK34 _ _ _ _ _ ?_))
        clear hK34
        refine wp_seq' fun K36 hK36 => ?_
        refine wp_block' ?_
        refine wp_rega [(999, [(5001, _), (5002, _), (5003, _), (5004, _), (5005, _), (5006, _), (5007, _), (5008, _), (5009, _), (5010, _)]), (15, [(5000, _)])] (by kernel_rfl) ⟨.inr (subH_same rfl (subH_same rfl (subH_same rfl (subH_same rfl (subH_same rfl (subH_same rfl (subH_same rfl (subH_same rfl (subH_same rfl (subH_same rfl subH_nil)))))))))), ⟨.inr (subH_same rfl subH_nil), trivial⟩⟩ ?_
        refine aq_r 0 999 rfl (by kernel_rfl) (by kernel_rfl) (by kernel_rfl) (.head _) (by kernel_rfl) (by kernel_rfl) rfl (r_move rfl) ?_
        refine aq_r 1 999 rfl (by kernel_rfl) (by kernel_rfl) (by kernel_rfl) (.head _) (by kernel_rfl) (by kernel_rfl) rfl (r_move rfl) ?_
        refine aq_r 2 999 rfl (by kernel_rfl) (by kernel_rfl) (by kernel_rfl) (.head _) (by kernel_rfl) (by kernel_rfl) rfl (r_move rfl) ?_
        refine aq_r 3 999 rfl (by kernel_rfl) (by kernel_rfl) (by kernel_rfl) (.head _) (by kernel_rfl) (by kernel_rfl) rfl (r_move rfl) ?_
        refine aq_r 4 999 rfl (by kernel_rfl) (by kernel_rfl) (by kernel_rfl) (.head _) (by kernel_rfl) (by kernel_rfl) rfl (r_sub rfl rfl (by omega)) ?_
        refine aq_r 5 999 rfl (by kernel_rfl) (by kernel_rfl) (by kernel_rfl) (.head _) (by kernel_rfl) (by kernel_rfl) rfl (r_move rfl) ?_
        refine aq_r 6 999 rfl (by kernel_rfl) (by kernel_rfl) (by kernel_rfl) (.head _) (by kernel_rfl) (by kernel_rfl) rfl (r_move rfl) ?_
        refine aq_r 7 999 rfl (by kernel_rfl) (by kernel_rfl) (by kernel_rfl) (.head _) (by kernel_rfl) (by kernel_rfl) rfl (r_sub rfl rfl (by omega)) ?_
        refine aq_ixo 8 15 rfl (by kernel_rfl) (by kernel_rfl) (by kernel_rfl) (.tail _ (.head _)) (by kernel_rfl) (by kernel_rfl) rfl (id := 5000) encI _ rfl rfl rfl rfl sl61 (by omega) (by omega) fun x121 hx121 => ?_
        try simp only [Int.toNat_natCast] at hx121
        try simp only [Int.toNat_natCast] at hx121
        refine aq_r 9 15 rfl (by kernel_rfl) (by kernel_rfl) (by kernel_rfl) (.tail _ (.head _)) (by kernel_rfl) (by kernel_rfl) rfl (r_ldw rfl (fun w1 hb1 hs1 hB1 => show Loads _ _ _ _ (.int .i64 x121) from ld_own (id := 5000) hs1 rfl rfl ty3 hx121)) ?_
        refine aq_r 10 999 rfl (by kernel_rfl) (by kernel_rfl) (by kernel_rfl) (.head _) (by kernel_rfl) (by kernel_rfl) rfl (r_move rfl) ?_
        refine aq_r 11 999 rfl (by kernel_rfl) (by kernel_rfl) (by kernel_rfl) (.head _) (by kernel_rfl) (by kernel_rfl) rfl (r_move rfl) ?_
        refine aq_one (i := 12) (by kernel_rfl) rfl fun K37 hK37 => ?_
        refine ol_ixo (id := 5000) encI _ rfl rfl rfl rfl sl61 (by omega) rfl fun x125 hx125 => ?_
        try simp only [Int.toNat_natCast] at hx125
        try simp only [Int.toNat_natCast] at hx125
        refine ol_nil (to_k0 (fun _ _ h => h) (hK37 _ _ ⟨.inr (by repeat' first | exact subH_nil | refine subH_same rfl ?_ | (refine subH_blk rfl (by repeat' first | exact sub_nil | refine sub_cons rfl ?_) ?_)), ⟨.inr (by repeat' first | exact subH_nil | refine subH_same rfl ?_ | (refine subH_blk rfl (by repeat' first | exact sub_nil | refine sub_cons rfl ?_) ?_)), trivial⟩⟩ ?_))
        clear hK37
        refine aq_r 13 15 rfl (by kernel_rfl) (by kernel_rfl) (by kernel_rfl) (.tail _ (.head _)) (by kernel_rfl) (by kernel_rfl) rfl (r_ldw rfl (fun w1 hb1 hs1 hB1 => show Loads _ _ _ _ (.int .i64 x125) from ld_own (id := 5000) hs1 rfl rfl ty3 hx125)) ?_
        refine aq_ixo 14 15 rfl (by kernel_rfl) (by kernel_rfl) (by kernel_rfl) (.tail _ (.head _)) (by kernel_rfl) (by kernel_rfl) rfl (id := 5000) encI _ rfl rfl rfl rfl sl61 (by omega) (by omega) fun x127 hx127 => ?_
        try simp only [Int.toNat_natCast] at hx127
        try simp only [Int.toNat_natCast] at hx127
        refine aq_one (i := 15) (by kernel_rfl) rfl fun K38 hK38 => ?_
        refine ol_storeRow (id := 5000) _ _ _ rfl rfl rfl rfl sz3 (by omega) ?_
        refine ol_nil (to_k0 (fun _ _ h => h) (hK38 _ _ ⟨.inr (by repeat' first | exact subH_nil | refine subH_same rfl ?_ | (refine subH_blk rfl (by repeat' first | exact sub_nil | refine sub_cons rfl ?_) ?_)), ⟨.inl (by kernel_rfl), trivial⟩⟩ ?_))
        clear hK38
        refine aq_one (i := 16) (by kernel_rfl) rfl fun K39 hK39 => ?_
        refine ol_ixo (id := 5000) encI _ rfl rfl rfl rfl sl61 (by omega) rfl fun x128 hx128 => ?_
        try simp only [Int.toNat_natCast] at hx128
        try simp only [Int.toNat_natCast] at hx128
        refine ol_nil (to_k0 (fun _ _ h => h) (hK39 _ _ ⟨.inr (by repeat' first | exact subH_nil | refine subH_same rfl ?_ | (refine subH_blk rfl (by repeat' first | exact sub_nil | refine sub_cons rfl ?_) ?_)), ⟨.inl (by kernel_rfl), trivial⟩⟩ ?_))
        clear hK39
        refine aq_one (i := 17) (by kernel_rfl) rfl fun K40 hK40 => ?_
        refine ol_storeRow (id := 5000) _ _ _ rfl rfl rfl rfl sz3 (by omega) ?_
        refine ol_nil (to_k0 (fun _ _ h => h) (hK40 _ _ ⟨.inr (by repeat' first | exact subH_nil | refine subH_same rfl ?_ | (refine subH_blk rfl (by repeat' first | exact sub_nil | refine sub_cons rfl ?_) ?_)), ⟨.inl (by kernel_rfl), trivial⟩⟩ ?_))
        clear hK40
        refine aq_done (by kernel_rfl) ?_
        refine (to_k0 (fun _ _ h => h) (hK36 _ _ _ _ _ ?_))
        clear hK36
        refine wp_reg ?_
        refine ol_r (r_move rfl) rfl ?_
        refine ol_r (r_subT (k - 1) rfl rfl (by omega) (by omega)) rfl ?_
        refine ol_r (r_assign rfl) rfl ?_
        refine ol_nil (to_k0 (fun _ _ h => h) (hK33 (k - 1) _ _ ?_ ?_ (sub_cons rfl sub_nil) (sub_cons rfl (sub_cons rfl (sub_cons rfl (sub_cons rfl (sub_cons rfl (sub_cons rfl sub_nil)))))) (by exact (subH_row rfl (by first | (dsimp only; (rw [← mvL_step (by omega) (by omega), sw_row (i := k) (j := k - 1) (by omega) (by omega) ⟨_, by omega, hx121⟩ ⟨_, by omega, hx125⟩]); done) | ((rw [← mvL_step (by omega) (by omega), sw_row (i := k) (j := k - 1) (by omega) (by omega) ⟨_, by omega, hx121⟩ ⟨_, by omega, hx125⟩]); done) | (dsimp only; done)) subH_nil)) (subH_same rfl (subH_same rfl (subH_same rfl (subH_same rfl (subH_same rfl (subH_same rfl (subH_same rfl (subH_same rfl (subH_same rfl (subH_same rfl subH_nil))))))))))))
        ·try dsimp only
         exact ⟨by omega, by omega⟩
        ·try dsimp only
         omega
       ·refine wp_exit' (to_k0 (fun _ _ h => h) (hK31 _ _ _ _ _ ?_))
        clear hK31
        refine hQ.ret rvs0 (fun _ _ h => h) fun w hb hs hB hkd => ?_
        exact ⟨_, rfl, hb, hs.sub (subH_same rfl (subH_same rfl (subH_same rfl (subH_same rfl (subH_same rfl (subH_same rfl (subH_same rfl (subH_same rfl (subH_same rfl (subH_same rfl (subH_same rfl subH_nil))))))))))), hB, hkd, by
          obtain rfl : k = i := by omega
          exact mvL_blo hw hM hi hj hlo hhi⟩
   ·refine wp_skip' (to_k0 (fun _ _ h => h) (hK21 _ _ _ _ _ ?_))
    clear hK21
    refine wp_seq' fun K41 hK41 => ?_
    refine wp_reg ?_
    refine ol_r (r_move rfl) rfl ?_
    refine ol_r (r_move rfl) rfl ?_
    refine ol_r (r_add rfl rfl (by omega)) rfl ?_
    refine ol_r (r_conv (k2 := .u64) rfl (by kernel_rfl) (by kernel_rfl) (wrap_u64 (by omega))) rfl ?_
    refine ol_r (r_shr1 rfl rfl) rfl ?_
    refine ol_r (r_conv (k2 := .i64) rfl (by kernel_rfl) (by kernel_rfl) (IntWalk.i64_in _ (by omega))) rfl ?_
    obtain ⟨mid, hmid⟩ : ∃ h : Nat, ((p : Int) + (q : Int)) / 2 = h := ⟨(p + q) / 2, by omega⟩
    rw [hmid]
    refine ol_r (r_assign rfl) rfl ?_
    refine ol_nil (to_k0 (fun _ _ h => h) (hK41 _ _ _ _ _ ?_))
    clear hK41
    refine wp_seq' fun K42 hK42 => ?_
    refine wp_reg ?_
    refine ol_r (r_move rfl) rfl ?_
    refine ol_r (r_move rfl) rfl ?_
    refine ol_r (r_addT (mid + m) rfl rfl (by omega) (by omega)) rfl ?_
    refine ol_r (r_assign rfl) rfl ?_
    refine ol_nil (to_k0 (fun _ _ h => h) (hK42 _ _ _ _ _ ?_))
    clear hK42
    refine wp_seq' fun K43 hK43 => ?_
    refine wp_reg ?_
    refine ol_r (r_assign rfl) rfl ?_
    refine ol_r (r_assign rfl) rfl ?_
    refine ol_nil (to_k0 (fun _ _ h => h) (hK43 _ _ _ _ _ ?_))
    clear hK43
    apply wp_seq_cutM (σ := Nat × Nat) (fun s => (mid < m ∧ s.1 = mid + m - q ∧ s.2 = mid) ∨ (m ≤ mid ∧ s.1 = p ∧ s.2 = m)) (fun s => [(20, .int .i64 s.1), (21, .int .i64 s.2)]) [(0, _), (1, _), (2, _), (3, _), (4, _), (18, _), (19, _)] (fun s => []) [(5000, _), (5001, _), (5002, _), (5003, _), (5004, _), (5005, _), (5006, _), (5007, _), (5008, _), (5009, _), (5010, _)]
    ·exact (sub_cons rfl (sub_cons rfl (sub_cons rfl (sub_cons rfl (sub_cons rfl (sub_cons rfl (sub_cons rfl sub_nil)))))))
    ·exact (subH_same rfl (subH_same rfl (subH_same rfl (subH_same rfl (subH_same rfl (subH_same rfl (subH_same rfl (subH_same rfl (subH_same rfl (subH_same rfl (subH_same rfl subH_nil)))))))))))
    ·intro K44 hK44
     refine wp_seq' fun K45 hK45 => ?_
     refine wp_reg ?_
     refine ol_r (r_move rfl) rfl ?_
     refine ol_r (r_move rfl) rfl ?_
     refine ol_r (r_gtr rfl rfl) rfl ?_
     refine ol_nil (to_k0 (fun _ _ h => h) (hK45 _ _ _ _ _ ?_))
     clear hK45
     first | refine wp_condD rfl (fun hc140 => ?_) (fun hc140 => ?_) | refine wp_condN rfl (fun hc140 => ?_) (fun hc140 => ?_) | refine wp_condNB rfl (fun hc140 => ?_) (fun hc140 => ?_) | refine wp_cond' rfl (fun hc140 => ?_) (fun hc140 => ?_)
     ·refine wp_seq' fun K46 hK46 => ?_
      refine wp_reg ?_
      refine ol_r (r_move rfl) rfl ?_
      refine ol_r (r_move rfl) rfl ?_
      refine ol_r (r_subT (mid + m - q) rfl rfl (by omega) (by omega)) rfl ?_
      refine ol_r (r_assign rfl) rfl ?_
      refine ol_nil (to_k0 (fun _ _ h => h) (hK46 _ _ _ _ _ ?_))
      clear hK46
      refine wp_reg ?_
      refine ol_r (r_move rfl) rfl ?_
      refine ol_r (r_assign rfl) rfl ?_
      refine ol_nil (to_k0 (fun _ _ h => h) (hK44 ((_, _)) _ _ ?_ (sub_cons rfl (sub_cons rfl sub_nil)) (sub_cons rfl (sub_cons rfl (sub_cons rfl (sub_cons rfl (sub_cons rfl (sub_cons rfl (sub_cons rfl sub_nil))))))) subH_nil (subH_same rfl (subH_same rfl (subH_same rfl (subH_same rfl (subH_same rfl (subH_same rfl (subH_same rfl (subH_same rfl (subH_same rfl (subH_same rfl (subH_same rfl subH_nil)))))))))))))
      try dsimp only
      first
      | exact .inl ⟨by omega, rfl, rfl⟩
      | exact .inr ⟨by omega, rfl, rfl⟩
     ·refine wp_seq' fun K47 hK47 => ?_
      refine wp_reg ?_
      refine ol_r (r_move rfl) rfl ?_
      refine ol_r (r_assign rfl) rfl ?_
      refine ol_nil (to_k0 (fun _ _ h => h) (hK47 _ _ _ _ _ ?_))
      clear hK47
      refine wp_reg ?_
      refine ol_r (r_move rfl) rfl ?_
      refine ol_r (r_assign rfl) rfl ?_
      refine ol_nil (to_k0 (fun _ _ h => h) (hK44 ((_, _)) _ _ ?_ (sub_cons rfl (sub_cons rfl sub_nil)) (sub_cons rfl (sub_cons rfl (sub_cons rfl (sub_cons rfl (sub_cons rfl (sub_cons rfl (sub_cons rfl sub_nil))))))) subH_nil (subH_same rfl (subH_same rfl (subH_same rfl (subH_same rfl (subH_same rfl (subH_same rfl (subH_same rfl (subH_same rfl (subH_same rfl (subH_same rfl (subH_same rfl subH_nil)))))))))))))
      try dsimp only
      first
      | exact .inl ⟨by omega, rfl, rfl⟩
      | exact .inr ⟨by omega, rfl, rfl⟩
    ·rintro ⟨s0, r0⟩ h0
     dsimp only at h0 ⊢
     refine wp_seq' fun K48 hK48 => ?_
     refine wp_reg ?_
     refine ol_r (r_move rfl) rfl ?_
     refine ol_r (r_subT (mid + m - 1) rfl rfl (by omega) (by omega)) rfl ?_
     refine ol_r (r_assign rfl) rfl ?_
     refine ol_nil (to_k0 (fun _ _ h => h) (hK48 _ _ _ _ _ ?_))
     clear hK48
     refine wp_seq' fun K49 hK49 => ?_
     refine wp_block' ?_
     apply wp_loopM (σ := Nat × Nat) (fun s => s0 ≤ s.1 ∧ s.1 ≤ s.2 ∧ s.2 ≤ r0 ∧ (s0 < s.1 → ltC cf (f (mid + m - s.1)) (f (s.1 - 1)) = false) ∧ (s.2 < r0 → ltC cf (f (mid + m - 1 - s.2)) (f s.2) = true)) (fun s => [(20, .int .i64 s.1), (21, .int .i64 s.2)]) [(0, _), (1, _), (2, _), (3, _), (4, _), (18, _), (19, _), (22, _)] (fun s => []) [(5000, _), (5001, _), (5002, _), (5003, _), (5004, _), (5005, _), (5006, _), (5007, _), (5008, _), (5009, _), (5010, _)] (fun s => s.2 - s.1) ((s0, r0))
     ·try dsimp only
      exact ⟨Nat.le_refl _, by omega, Nat.le_refl _, fun h4 => by omega, fun h4 => by omega⟩
     ·exact (sub_cons rfl (sub_cons rfl sub_nil))
     ·exact (sub_cons rfl (sub_cons rfl (sub_cons rfl (sub_cons rfl (sub_cons rfl (sub_cons rfl (sub_cons rfl (sub_cons rfl sub_nil))))))))
     ·exact subH_nil
     ·exact (subH_same rfl (subH_same rfl (subH_same rfl (subH_same rfl (subH_same rfl (subH_same rfl (subH_same rfl (subH_same rfl (subH_same rfl (subH_same rfl (subH_same rfl subH_nil)))))))))))
     ·rintro ⟨u, r⟩ ⟨hi, hij, hj, hlo, hhi⟩
      dsimp only at hi hij hj hlo hhi ⊢
      intro K50 hK50
      refine wp_seq' fun K51 hK51 => ?_
      refine wp_seq' fun K52 hK52 => ?_
      refine wp_reg ?_
      refine ol_r (r_move rfl) rfl ?_
      refine ol_r (r_move rfl) rfl ?_
      refine ol_r (r_lss rfl rfl) rfl ?_
      refine ol_nil (to_k0 (fun _ _ h => h) (hK52 _ _ _ _ _ ?_))
      clear hK52
      first | refine wp_condD rfl (fun hc151 => ?_) (fun hc151 => ?_) | refine wp_condN rfl (fun hc151 => ?_) (fun hc151 => ?_) | refine wp_condNB rfl (fun hc151 => ?_) (fun hc151 => ?_) | refine wp_cond' rfl (fun hc151 => ?_) (fun hc151 => ?_)
      ·refine wp_skip' (to_k0 (fun _ _ h => h) (hK51 _ _ _ _ _ ?_))
       clear hK51
       refine wp_block' ?_
       refine wp_seq' fun K53 hK53 => ?_
       refine wp_reg ?_
       refine ol_r (r_move rfl) rfl ?_
       refine ol_r (r_move rfl) rfl ?_
       refine ol_r (r_add rfl rfl (by omega)) rfl ?_
       refine ol_r (r_conv (k2 := .u64) rfl (by kernel_rfl) (by kernel_rfl) (wrap_u64 (by omega))) rfl ?_
       refine ol_r (r_shr1 rfl rfl) rfl ?_
       refine ol_r (r_conv (k2 := .i64) rfl (by kernel_rfl) (by kernel_rfl) (IntWalk.i64_in _ (by omega))) rfl ?_
       obtain ⟨h, hh⟩ : ∃ h : Nat, ((u : Int) + (r : Int)) / 2 = h := ⟨(u + r) / 2, by omega⟩
       rw [hh]
       refine ol_r (r_assign rfl) rfl ?_
       refine ol_nil (to_k0 (fun _ _ h => h) (hK53 _ _ _ _ _ ?_))
       clear hK53
       refine wp_seq' fun K54 hK54 => ?_
       refine wp_regq (by kernel_rfl) (by kernel_rfl) ?_
       refine ql_r (r_move rfl) rfl ?_
       refine ql_r (r_move rfl) rfl ?_
       refine ql_r (r_move rfl) rfl ?_
       refine ql_r (r_move rfl) rfl ?_
       refine ql_r (r_sub rfl rfl (by omega)) rfl ?_
       refine ql_ixo (id := 5000) encI _ rfl rfl rfl rfl sl61 (by omega) (by omega) rfl fun x163 hx163 => ?_
       try simp only [Int.toNat_natCast] at hx163
       try simp only [Int.toNat_natCast] at hx163
       refine ql_r (r_ldw rfl (fun w1 hb1 hs1 hB1 => show Loads _ _ _ _ (.int .i64 x163) from ld_own (id := 5000) hs1 rfl rfl ty3 hx163)) rfl ?_
       refine ql_r (r_move rfl) rfl ?_
       refine ql_r (r_move rfl) rfl ?_
       refine ql_ixo (id := 5000) encI _ rfl rfl rfl rfl sl61 (by omega) (by omega) rfl fun x167 hx167 => ?_
       try simp only [Int.toNat_natCast] at hx167
       try simp only [Int.toNat_natCast] at hx167
       refine ql_r (r_ldw rfl (fun w1 hb1 hs1 hB1 => show Loads _ _ _ _ (.int .i64 x167) from ld_own (id := 5000) hs1 rfl rfl ty3 hx167)) rfl ?_
       have hx163' := hx163
       rw [show (((mid + m - 1 : Nat) : Int) - (h : Int)).toNat = mid + m - 1 - h by omega] at hx163'
       refine ql_call rfl rfl cb122 rfl (fun w1 hb1 hs1 hB1 => hcmp _ _ _ (by rw [← tab_eq hx163]; exact hG _ (by omega)) (by rw [← tab_eq hx167]; exact hG _ (by omega)) (hs1.sub (subH_same rfl (subH_same rfl subH_nil))) hB1) ?_
       refine ql_r (r_lss rfl rfl) rfl ?_
       refine ql_r (r_not rfl) rfl ?_
       refine ql_nil (to_k0 (fun _ _ h => h) (hK54 _ _ _ _ _ ?_))
       clear hK54
       first | refine wp_condD rfl (fun hc171 => ?_) (fun hc171 => ?_) | refine wp_condN rfl (fun hc171 => ?_) (fun hc171 => ?_) | refine wp_condNB rfl (fun hc171 => ?_) (fun hc171 => ?_) | refine wp_cond' rfl (fun hc171 => ?_) (fun hc171 => ?_)
       ·refine wp_reg ?_
        refine ol_r (r_move rfl) rfl ?_
        refine ol_r (r_addT (h + 1) rfl rfl (by omega) (by omega)) rfl ?_
        refine ol_r (r_assign rfl) rfl ?_
        refine ol_nil (to_k0 (fun _ _ h => h) (hK50 ((_, _)) _ _ ?_ ?_ (sub_cons rfl (sub_cons rfl sub_nil)) (sub_cons rfl (sub_cons rfl (sub_cons rfl (sub_cons rfl (sub_cons rfl (sub_cons rfl (sub_cons rfl (sub_cons rfl sub_nil)))))))) (by exact subH_nil) (subH_same rfl (subH_same rfl (subH_same rfl (subH_same rfl (subH_same rfl (subH_same rfl (subH_same rfl (subH_same rfl (subH_same rfl (subH_same rfl (subH_same rfl subH_nil)))))))))))))
        ·try dsimp only
         first
           | exact ⟨by omega, by omega, by omega, fun _ => by
               rw [show mid + m - (h + 1) = mid + m - 1 - h by omega, Nat.add_sub_cancel]
               refine ltC_f ?_
               rw [tab_eq hx163', tab_eq hx167]; exact hc171, hhi⟩
           | exact ⟨by omega, by omega, by omega, hlo, fun _ => by
               refine ltC_t ?_
               rw [tab_eq hx163', tab_eq hx167]; exact hc171⟩
        ·try dsimp only
         omega
       ·refine wp_reg ?_
        refine ol_r (r_move rfl) rfl ?_
        refine ol_r (r_assign rfl) rfl ?_
        refine ol_nil (to_k0 (fun _ _ h => h) (hK50 ((_, _)) _ _ ?_ ?_ (sub_cons rfl (sub_cons rfl sub_nil)) (sub_cons rfl (sub_cons rfl (sub_cons rfl (sub_cons rfl (sub_cons rfl (sub_cons rfl (sub_cons rfl (sub_cons rfl sub_nil)))))))) (by exact subH_nil) (subH_same rfl (subH_same rfl (subH_same rfl (subH_same rfl (subH_same rfl (subH_same rfl (subH_same rfl (subH_same rfl (subH_same rfl (subH_same rfl (subH_same rfl subH_nil)))))))))))))
        ·try dsimp only
         first
           | exact ⟨by omega, by omega, by omega, fun _ => by
               rw [show mid + m - (h + 1) = mid + m - 1 - h by omega, Nat.add_sub_cancel]
               refine ltC_f ?_
               rw [tab_eq hx163', tab_eq hx167]; exact hc171, hhi⟩
           | exact ⟨by omega, by omega, by omega, hlo, fun _ => by
               refine ltC_t ?_
               rw [tab_eq hx163', tab_eq hx167]; exact hc171⟩
        ·try dsimp only
         omega
      ·refine wp_exit' (to_k0 (fun _ _ h => h) (hK49 _ _ _ _ _ ?_))
       clear hK49
       refine wp_seq' fun K55 hK55 => ?_
       refine wp_reg ?_
       refine ol_r (r_move rfl) rfl ?_
       refine ol_r (r_move rfl) rfl ?_
       refine ol_r (r_subT (mid + m - u) rfl rfl (by omega) (by omega)) rfl ?_
       obtain rfl : u = r := by omega
       have hT : Turn (ltC cf) f p m q mid u (mid + m - u) := by
         refine ⟨by omega, ⟨by omega, by omega, by omega, by omega⟩, fun t1 t2 => ?_, fun t1 t2 => ?_⟩
         · exact hlo (by omega)
         · rw [show mid + m - u - 1 = mid + m - 1 - u by omega]; exact hhi (by omega)
       have hP := turn_parts hw hM hT (by omega)
       refine ol_r (r_assign rfl) rfl ?_
       refine ol_nil (to_k0 (fun _ _ h => h) (hK55 _ _ _ _ _ ?_))
       clear hK55
       apply wp_seq_cutM (σ := Nat → Int) (fun s => s = rotF f u m (mid + m - u)) (fun s => []) [(0, _), (1, _), (3, _), (4, _), (18, _), (20, _), (24, _)] (fun s => [(5000, .row a n c (encI.enc (tab n s)) 3 1)]) [(5001, _), (5002, _), (5003, _), (5004, _), (5005, _), (5006, _), (5007, _), (5008, _), (5009, _), (5010, _)]
       ·exact (sub_cons rfl (sub_cons rfl (sub_cons rfl (sub_cons rfl (sub_cons rfl (sub_cons rfl (sub_cons rfl sub_nil)))))))
       ·exact (subH_same rfl (subH_same rfl (subH_same rfl (subH_same rfl (subH_same rfl (subH_same rfl (subH_same rfl (subH_same rfl (subH_same rfl (subH_same rfl subH_nil))))))))))
       ·intro K56 hK56
        refine wp_seq' fun K57 hK57 => ?_
        refine wp_reg ?_
        refine ol_r (r_move rfl) rfl ?_
        refine ol_r (r_move rfl) rfl ?_
        refine ol_r (r_lss rfl rfl) rfl ?_
        refine ol_r (r_move rfl) rfl ?_
        refine ol_split (d := 181) rfl (fun hs181 => ?_) (fun hs181 => ?_)
        ·have phs181 := hs181; try simp only [decide_eq_true_eq, decide_eq_false_iff_not, Bool.not_eq_true', Bool.not_eq_false', Bool.not_true, Bool.not_false] at phs181
         refine ol_g rfl rfl hs181 ?_
         refine ol_r (r_move rfl) rfl ?_
         refine ol_g rfl rfl hs181 ?_
         refine ol_r (r_move rfl) rfl ?_
         refine ol_g rfl rfl hs181 ?_
         refine ol_r (r_lss rfl rfl) rfl ?_
         refine ol_r (r_pickT rfl hs181 rfl) rfl ?_
         refine ol_nil (to_k0 (fun _ _ h => h) (hK57 _ _ _ _ _ ?_))
         clear hK57
         first | refine wp_condD rfl (fun hc185 => ?_) (fun hc185 => ?_) | refine wp_condN rfl (fun hc185 => ?_) (fun hc185 => ?_) | refine wp_condNB rfl (fun hc185 => ?_) (fun hc185 => ?_) | refine wp_cond' rfl (fun hc185 => ?_) (fun hc185 => ?_)
         ·refine wp_reg ?_
          refine ol_r (r_move rfl) rfl ?_
          refine ol_r (r_move rfl) rfl ?_
          refine ol_r (r_move rfl) rfl ?_
          refine ol_r (r_move rfl) rfl ?_
          refine ol_r (r_move rfl) rfl ?_
          refine ol_call rfl rfl cb147 rfl (fun w1 hb1 hs1 hB1 => ?_)
          refine Calls.mono (rotate_w cf Good B cb a n c e1 e2 e3 e4 e5 e6 e7 e8 e9 e10 f u m (mid + m - u) _ hB1 hn (by omega) (by omega) (by omega) (hs1.sub (subH_same rfl (subH_same rfl (subH_same rfl (subH_same rfl (subH_same rfl (subH_same rfl (subH_same rfl (subH_same rfl (subH_same rfl (subH_same rfl (subH_same rfl subH_nil))))))))))))) ?_
          rintro e w2 ⟨g, rfl, hb2, hs2, hB2, hk2, hg⟩
          refine After.sat rfl hb1 hb2 hs2 hB2 (hk2.imp fun _ h => h.elim) ?_
          clear hk2 hs2 hb2 hB2 hB1 hs1 hb1 w2 w1
          refine ol_nil (to_k0 (fun _ _ h => h) (hK56 (_) _ _ ?_ sub_nil (sub_cons rfl (sub_cons rfl (sub_cons rfl (sub_cons rfl (sub_cons rfl (sub_cons rfl (sub_cons rfl sub_nil))))))) (subH_row rfl (by first | (dsimp only; rfl; done) | (rfl; done) | (dsimp only; done)) subH_nil) (subH_same rfl (subH_same rfl (subH_same rfl (subH_same rfl (subH_same rfl (subH_same rfl (subH_same rfl (subH_same rfl (subH_same rfl (subH_same rfl subH_nil))))))))))))
          try dsimp only
          first
          | exact hg
          | (rcases Nat.lt_or_ge u m with h9 | h9
             · have h8 : mid + m - u = m := by omega
               rw [h8, rotF_id2]
             · have h8 : u = m := by omega
               rw [h8, show mid + m - m = mid by omega, rotF_id1])
         ·refine wp_skip' (to_k0 (fun _ _ h => h) (hK56 (_) _ _ ?_ sub_nil (sub_cons rfl (sub_cons rfl (sub_cons rfl (sub_cons rfl (sub_cons rfl (sub_cons rfl (sub_cons rfl sub_nil))))))) (subH_row rfl (by first | (dsimp only; rfl; done) | (rfl; done) | (dsimp only; done)) subH_nil) (subH_same rfl (subH_same rfl (subH_same rfl (subH_same rfl (subH_same rfl (subH_same rfl (subH_same rfl (subH_same rfl (subH_same rfl (subH_same rfl subH_nil))))))))))))
          try dsimp only
          first
          | exact hg
          | (rcases Nat.lt_or_ge u m with h9 | h9
             · have h8 : mid + m - u = m := by omega
               rw [h8, rotF_id2]
             · have h8 : u = m := by omega
               rw [h8, show mid + m - m = mid by omega, rotF_id1])
        ·have phs181 := hs181; try simp only [decide_eq_true_eq, decide_eq_false_iff_not, Bool.not_eq_true', Bool.not_eq_false', Bool.not_true, Bool.not_false] at phs181
         refine ol_s rfl rfl hs181 rfl ?_
         refine ol_s rfl rfl hs181 rfl ?_
         refine ol_s rfl rfl hs181 rfl ?_
         refine ol_r (r_pickF rfl hs181 rfl) rfl ?_
         refine ol_nil (to_k0 (fun _ _ h => h) (hK57 _ _ _ _ _ ?_))
         clear hK57
         refine wp_condF rfl ?_
         refine wp_skip' (to_k0 (fun _ _ h => h) (hK56 (_) _ _ ?_ sub_nil (sub_cons rfl (sub_cons rfl (sub_cons rfl (sub_cons rfl (sub_cons rfl (sub_cons rfl (sub_cons rfl sub_nil))))))) (subH_row rfl (by first | (dsimp only; rfl; done) | (rfl; done) | (dsimp only; done)) subH_nil) (subH_same rfl (subH_same rfl (subH_same rfl (subH_same rfl (subH_same rfl (subH_same rfl (subH_same rfl (subH_same rfl (subH_same rfl (subH_same rfl subH_nil))))))))))))
         try dsimp only
         first
         | exact hg
         | (rcases Nat.lt_or_ge u m with h9 | h9
            · have h8 : mid + m - u = m := by omega
              rw [h8, rotF_id2]
            · have h8 : u = m := by omega
              rw [h8, show mid + m - m = mid by omega, rotF_id1])
       ·rintro F1 hF1
        have hF1l := tab_len n F1
        have hR0 : SaS f (rotF f u m (mid + m - u)) 0 n := (SaS.rot (f := f) hT.rg.2.1 hT.rg.2.2.1).widen (Nat.zero_le _) (by omega) (by omega) (fun x hx => by simp only [rotF]; rw [if_neg (by omega), if_neg (by omega)])
        rw [← hF1] at hP hR0
        have hG1 := good_of hG hR0
        apply wp_seq_cutM (σ := Nat → Int) (fun s => Blo (ltC cf) F1 s p mid) (fun s => []) [(0, _), (3, _), (4, _), (18, _), (24, _)] (fun s => [(5000, .row a n c (encI.enc (tab n s)) 3 1)]) [(5001, _), (5002, _), (5003, _), (5004, _), (5005, _), (5006, _), (5007, _), (5008, _), (5009, _), (5010, _)]
        ·exact (sub_cons rfl (sub_cons rfl (sub_cons rfl (sub_cons rfl (sub_cons rfl sub_nil)))))
        ·exact (subH_same rfl (subH_same rfl (subH_same rfl (subH_same rfl (subH_same rfl (subH_same rfl (subH_same rfl (subH_same rfl (subH_same rfl (subH_same rfl subH_nil))))))))))
        ·intro K58 hK58
         refine wp_seq' fun K59 hK59 => ?_
         refine wp_reg ?_
         refine ol_r (r_move rfl) rfl ?_
         refine ol_r (r_move rfl) rfl ?_
         refine ol_r (r_lss rfl rfl) rfl ?_
         refine ol_r (r_move rfl) rfl ?_
         refine ol_split (d := 195) rfl (fun hs195 => ?_) (fun hs195 => ?_)
         ·have phs195 := hs195; try simp only [decide_eq_true_eq, decide_eq_false_iff_not, Bool.not_eq_true', Bool.not_eq_false', Bool.not_true, Bool.not_false] at phs195
          refine ol_g rfl rfl hs195 ?_
          refine ol_r (r_move rfl) rfl ?_
          refine ol_g rfl rfl hs195 ?_
          refine ol_r (r_move rfl) rfl ?_
          refine ol_g rfl rfl hs195 ?_
          refine ol_r (r_lss rfl rfl) rfl ?_
          refine ol_r (r_pickT rfl hs195 rfl) rfl ?_
          refine ol_nil (to_k0 (fun _ _ h => h) (hK59 _ _ _ _ _ ?_))
          clear hK59
          first | refine wp_condD rfl (fun hc199 => ?_) (fun hc199 => ?_) | refine wp_condN rfl (fun hc199 => ?_) (fun hc199 => ?_) | refine wp_condNB rfl (fun hc199 => ?_) (fun hc199 => ?_) | refine wp_cond' rfl (fun hc199 => ?_) (fun hc199 => ?_)
          ·refine wp_reg ?_
           refine ol_r (r_move rfl) rfl ?_
           refine ol_r (r_move rfl) rfl ?_
           refine ol_r (r_move rfl) rfl ?_
           refine ol_r (r_move rfl) rfl ?_
           refine ol_r (r_move rfl) rfl ?_
           refine ol_call rfl rfl cb145 rfl (fun w1 hb1 hs1 hB1 => ?_)
           refine Calls.mono (ih p u mid F1 _ (by omega) hB1 (by omega) (by omega) (by omega) hG1 hP.1 (hs1.sub (subH_same rfl (subH_same rfl (subH_same rfl (subH_same rfl (subH_same rfl (subH_same rfl (subH_same rfl (subH_same rfl (subH_same rfl (subH_same rfl (subH_same rfl subH_nil))))))))))))) ?_
           rintro e w2 ⟨g, rfl, hb2, hs2, hB2, hk2, hg⟩
           refine After.sat rfl hb1 hb2 hs2 hB2 (hk2.imp fun _ h => h.elim) ?_
           clear hk2 hs2 hb2 hB2 hB1 hs1 hb1 w2 w1
           refine ol_nil (to_k0 (fun _ _ h => h) (hK58 (_) _ _ ?_ sub_nil (sub_cons rfl (sub_cons rfl (sub_cons rfl (sub_cons rfl (sub_cons rfl sub_nil))))) (subH_row rfl (by first | (dsimp only; rfl; done) | (rfl; done) | (dsimp only; done)) subH_nil) (subH_same rfl (subH_same rfl (subH_same rfl (subH_same rfl (subH_same rfl (subH_same rfl (subH_same rfl (subH_same rfl (subH_same rfl (subH_same rfl subH_nil))))))))))))
           try dsimp only
           first
           | exact hg
           | (refine Blo.one ?_
              rcases Nat.lt_or_ge p u with h9 | h9
              · have h8 : u = mid := by omega
                have h7 := hP.1.l
                rw [h8] at h7; exact h7
              · have h8 : u = p := by omega
                have h7 := hP.1.r
                rw [h8] at h7; exact h7)
          ·refine wp_skip' (to_k0 (fun _ _ h => h) (hK58 (_) _ _ ?_ sub_nil (sub_cons rfl (sub_cons rfl (sub_cons rfl (sub_cons rfl (sub_cons rfl sub_nil))))) (subH_row rfl (by first | (dsimp only; rfl; done) | (rfl; done) | (dsimp only; done)) subH_nil) (subH_same rfl (subH_same rfl (subH_same rfl (subH_same rfl (subH_same rfl (subH_same rfl (subH_same rfl (subH_same rfl (subH_same rfl (subH_same rfl subH_nil))))))))))))
           try dsimp only
           first
           | exact hg
           | (refine Blo.one ?_
              rcases Nat.lt_or_ge p u with h9 | h9
              · have h8 : u = mid := by omega
                have h7 := hP.1.l
                rw [h8] at h7; exact h7
              · have h8 : u = p := by omega
                have h7 := hP.1.r
                rw [h8] at h7; exact h7)
         ·have phs195 := hs195; try simp only [decide_eq_true_eq, decide_eq_false_iff_not, Bool.not_eq_true', Bool.not_eq_false', Bool.not_true, Bool.not_false] at phs195
          refine ol_s rfl rfl hs195 rfl ?_
          refine ol_s rfl rfl hs195 rfl ?_
          refine ol_s rfl rfl hs195 rfl ?_
          refine ol_r (r_pickF rfl hs195 rfl) rfl ?_
          refine ol_nil (to_k0 (fun _ _ h => h) (hK59 _ _ _ _ _ ?_))
          clear hK59
          refine wp_condF rfl ?_
          refine wp_skip' (to_k0 (fun _ _ h => h) (hK58 (_) _ _ ?_ sub_nil (sub_cons rfl (sub_cons rfl (sub_cons rfl (sub_cons rfl (sub_cons rfl sub_nil))))) (subH_row rfl (by first | (dsimp only; rfl; done) | (rfl; done) | (dsimp only; done)) subH_nil) (subH_same rfl (subH_same rfl (subH_same rfl (subH_same rfl (subH_same rfl (subH_same rfl (subH_same rfl (subH_same rfl (subH_same rfl (subH_same rfl subH_nil))))))))))))
          try dsimp only
          first
          | exact hg
          | (refine Blo.one ?_
             rcases Nat.lt_or_ge p u with h9 | h9
             · have h8 : u = mid := by omega
               have h7 := hP.1.l
               rw [h8] at h7; exact h7
             · have h8 : u = p := by omega
               have h7 := hP.1.r
               rw [h8] at h7; exact h7)
        ·rintro F2 hF2
         have hF2l := tab_len n F2
         have hG2 := good_of hG1 (hF2.all (by omega) (by omega))
         have hM2 : MrgI (ltC cf) F2 mid (mid + m - u) q := by
           refine ⟨fun x y x1 x2 x3 => ?_, fun x y x1 x2 x3 => ?_, fun x y x1 x2 x3 x4 => ?_⟩
           · rw [hF2.out x (by omega), hF2.out y (by omega)]; exact hP.2.1.l x y x1 x2 x3
           · rw [hF2.out x (by omega), hF2.out y (by omega)]; exact hP.2.1.r x y x1 x2 x3
           · rw [hF2.out x (by omega), hF2.out y (by omega)]; exact hP.2.1.nu x y x1 x2 x3 x4
         refine wp_seq' fun K60 hK60 => ?_
         refine wp_reg ?_
         refine ol_r (r_move rfl) rfl ?_
         refine ol_r (r_move rfl) rfl ?_
         refine ol_r (r_lss rfl rfl) rfl ?_
         refine ol_r (r_move rfl) rfl ?_
         refine ol_split (d := 209) rfl (fun hs209 => ?_) (fun hs209 => ?_)
         ·have phs209 := hs209; try simp only [decide_eq_true_eq, decide_eq_false_iff_not, Bool.not_eq_true', Bool.not_eq_false', Bool.not_true, Bool.not_false] at phs209
          refine ol_g rfl rfl hs209 ?_
          refine ol_r (r_move rfl) rfl ?_
          refine ol_g rfl rfl hs209 ?_
          refine ol_r (r_move rfl) rfl ?_
          refine ol_g rfl rfl hs209 ?_
          refine ol_r (r_lss rfl rfl) rfl ?_
          refine ol_r (r_pickT rfl hs209 rfl) rfl ?_
          refine ol_nil (to_k0 (fun _ _ h => h) (hK60 _ _ _ _ _ ?_))
          clear hK60
          first | refine wp_condD rfl (fun hc213 => ?_) (fun hc213 => ?_) | refine wp_condN rfl (fun hc213 => ?_) (fun hc213 => ?_) | refine wp_condNB rfl (fun hc213 => ?_) (fun hc213 => ?_) | refine wp_cond' rfl (fun hc213 => ?_) (fun hc213 => ?_)
          ·refine wp_reg ?_
           refine ol_r (r_move rfl) rfl ?_
           refine ol_r (r_move rfl) rfl ?_
           refine ol_r (r_move rfl) rfl ?_
           refine ol_r (r_move rfl) rfl ?_
           refine ol_r (r_move rfl) rfl ?_
           refine ol_call rfl rfl cb145 rfl (fun w1 hb1 hs1 hB1 => ?_)
           refine Calls.mono (ih mid (mid + m - u) q F2 _ (by omega) hB1 (by omega) (by omega) (by omega) hG2 hM2 (hs1.sub (subH_same rfl (subH_same rfl (subH_same rfl (subH_same rfl (subH_same rfl (subH_same rfl (subH_same rfl (subH_same rfl (subH_same rfl (subH_same rfl (subH_same rfl subH_nil))))))))))))) ?_
           rintro e w2 ⟨g, rfl, hb2, hs2, hB2, hk2, hg⟩
           refine After.sat rfl hb1 hb2 hs2 hB2 (hk2.imp fun _ h => h.elim) ?_
           clear hk2 hs2 hb2 hB2 hB1 hs1 hb1 w2 w1
           refine ol_nil (hQ.fall rvs0 (fun _ _ h => h) fun w hb hs hB hkd => ?_)
           first
             | exact ⟨_, rfl, hb, hs.sub (subH_same rfl (subH_same rfl (subH_same rfl (subH_same rfl (subH_same rfl (subH_same rfl (subH_same rfl (subH_same rfl (subH_same rfl (subH_same rfl (subH_same rfl subH_nil))))))))))), hB, hkd, turn_blo hw hM hT (by omega) (hF1 ▸ hF2) hg⟩
             | (refine ⟨_, rfl, hb, hs.sub (subH_same rfl (subH_same rfl (subH_same rfl (subH_same rfl (subH_same rfl (subH_same rfl (subH_same rfl (subH_same rfl (subH_same rfl (subH_same rfl (subH_same rfl subH_nil))))))))))), hB, hkd, turn_blo hw hM hT (by omega) (hF1 ▸ hF2) (Blo.one ?_)⟩
                rcases Nat.lt_or_ge mid (mid + m - u) with h9 | h9
                · have h8 : mid + m - u = q := by omega
                  have h7 := hM2.l
                  rw [h8] at h7; exact h7
                · have h8 : mid + m - u = mid := by omega
                  have h7 := hM2.r
                  rw [h8] at h7; exact h7)
          ·refine wp_skip' (hQ.fall rvs0 (fun _ _ h => h) fun w hb hs hB hkd => ?_)
           first
             | exact ⟨_, rfl, hb, hs.sub (subH_same rfl (subH_same rfl (subH_same rfl (subH_same rfl (subH_same rfl (subH_same rfl (subH_same rfl (subH_same rfl (subH_same rfl (subH_same rfl (subH_same rfl subH_nil))))))))))), hB, hkd, turn_blo hw hM hT (by omega) (hF1 ▸ hF2) hg⟩
             | (refine ⟨_, rfl, hb, hs.sub (subH_same rfl (subH_same rfl (subH_same rfl (subH_same rfl (subH_same rfl (subH_same rfl (subH_same rfl (subH_same rfl (subH_same rfl (subH_same rfl (subH_same rfl subH_nil))))))))))), hB, hkd, turn_blo hw hM hT (by omega) (hF1 ▸ hF2) (Blo.one ?_)⟩
                rcases Nat.lt_or_ge mid (mid + m - u) with h9 | h9
                · have h8 : mid + m - u = q := by omega
                  have h7 := hM2.l
                  rw [h8] at h7; exact h7
                · have h8 : mid + m - u = mid := by omega
                  have h7 := hM2.r
                  rw [h8] at h7; exact h7)
         ·have phs209 := hs209; try simp only [decide_eq_true_eq, decide_eq_false_iff_not, Bool.not_eq_true', Bool.not_eq_false', Bool.not_true, Bool.not_false] at phs209
          refine ol_s rfl rfl hs209 rfl ?_
          refine ol_s rfl rfl hs209 rfl ?_
          refine ol_s rfl rfl hs209 rfl ?_
          refine ol_r (r_pickF rfl hs209 rfl) rfl ?_
          refine ol_nil (to_k0 (fun _ _ h => h) (hK60 _ _ _ _ _ ?_))
          clear hK60
          refine wp_condF rfl ?_
          refine wp_skip' (hQ.fall rvs0 (fun _ _ h => h) fun w hb hs hB hkd => ?_)
          first
            | exact ⟨_, rfl, hb, hs.sub (subH_same rfl (subH_same rfl (subH_same rfl (subH_same rfl (subH_same rfl (subH_same rfl (subH_same rfl (subH_same rfl (subH_same rfl (subH_same rfl (subH_same rfl subH_nil))))))))))), hB, hkd, turn_blo hw hM hT (by omega) (hF1 ▸ hF2) hg⟩
            | (refine ⟨_, rfl, hb, hs.sub (subH_same rfl (subH_same rfl (subH_same rfl (subH_same rfl (subH_same rfl (subH_same rfl (subH_same rfl (subH_same rfl (subH_same rfl (subH_same rfl (subH_same rfl subH_nil))))))))))), hB, hkd, turn_blo hw hM hT (by omega) (hF1 ▸ hF2) (Blo.one ?_)⟩
               rcases Nat.lt_or_ge mid (mid + m - u) with h9 | h9
               · have h8 : mid + m - u = q := by omega
                 have h7 := hM2.l
                 rw [h8] at h7; exact h7
               · have h8 : mid + m - u = mid := by omega
                 have h7 := hM2.r
                 rw [h8] at h7; exact h7)

theorem dvd_next {s p A : Nat} (hs : 0 < s) (h1 : s ∣ p) (h2 : s ∣ A) (h3 : p < A) : p + s ≤ A := by
  obtain ⟨x, rfl⟩ := h1
  obtain ⟨y, rfl⟩ := h2
  have h4 : x < y := Nat.lt_of_mul_lt_mul_left h3
  have h5 := Nat.mul_le_mul_left s (show x + 1 ≤ y from h4)
  rw [Nat.mul_add, Nat.mul_one] at h5
  exact h5
/-- Blocks of size s up to A are sorted, each with what it held; behind A nothing turned. -/
structure Hlf (lt : Int → Int → Bool) (f F0 F : Nat → Int) (s n A : Nat) : Prop where
  dv : s ∣ A
  ok : ∀ p, s ∣ p → p < A → SoR lt F p (p + s) ∧ SaS f F p (p + s)
  un : ∀ x, A ≤ x → F x = F0 x
theorem Hlf.zero {lt : Int → Int → Bool} {f F0 : Nat → Int} {s n : Nat} : Hlf lt f F0 F0 s n 0 := ⟨Nat.dvd_zero _, fun p _ h => by omega, fun _ _ => rfl⟩
theorem Blo.cong {lt : Int → Int → Bool} {f f' g : Nat → Int} {a b : Nat} (h : Blo lt f g a b) (he : ∀ x, a ≤ x → x < b → f x = f' x) : SoR lt g a b ∧ SaS f' g a b :=
  ⟨h.so, fun x p q => by obtain ⟨y, y1, y2, y3⟩ := h.sa.1 x p q; exact ⟨y, y1, y2, by rw [← he x p q]; exact y3⟩, fun x p q => by obtain ⟨y, y1, y2, y3⟩ := h.sa.2 x p q; exact ⟨y, y1, y2, by rw [← he y y1 y2]; exact y3⟩⟩
theorem Hlf.next {lt : Int → Int → Bool} {f F0 F G : Nat → Int} {s n A : Nat} (hs : 0 < s) (h : Hlf lt f F0 F s n A) (ho : ∀ x, x < A ∨ A + s ≤ x → G x = F x) (hG : SoR lt G A (A + s) ∧ SaS f G A (A + s)) : Hlf lt f F0 G s n (A + s) := by
  refine ⟨Nat.dvd_add h.dv (Nat.dvd_refl _), fun p p1 p2 => ?_, fun x hx => by rw [ho x (by omega)]; exact h.un x (by omega)⟩
  by_cases hp : p < A
  · have h2 := dvd_next hs p1 h.dv hp
    obtain ⟨h3, h4⟩ := h.ok p p1 hp
    refine ⟨fun x y x1 x2 x3 => by rw [ho x (by omega), ho y (by omega)]; exact h3 x y x1 x2 x3, fun x x1 x2 => ?_, fun x x1 x2 => ?_⟩
    · obtain ⟨y, y1, y2, y3⟩ := h4.1 x x1 x2; exact ⟨y, y1, y2, by rw [ho y (by omega)]; exact y3⟩
    · obtain ⟨y, y1, y2, y3⟩ := h4.2 x x1 x2; exact ⟨y, y1, y2, by rw [ho x (by omega)]; exact y3⟩
  · have h5 : p = A := by
      obtain ⟨x, hx⟩ := p1
      obtain ⟨y, hy⟩ := h.dv
      rw [hx, hy] at hp p2 ⊢
      have h6 : y ≤ x := by
        apply Decidable.byContradiction; intro h7
        exact hp ((Nat.mul_lt_mul_left hs).2 (by omega))
      have h8 : x < y + 1 := by
        apply Decidable.byContradiction; intro h7
        have := Nat.mul_le_mul_left s (show y + 1 ≤ x by omega)
        rw [Nat.mul_add, Nat.mul_one] at this
        omega
      rw [show x = y by omega]
    subst h5; exact hG
/-- All blocks. -/
theorem Hlf.last {lt : Int → Int → Bool} {f F0 F G : Nat → Int} {s n A : Nat} (hs : 0 < s) (h : Hlf lt f F0 F s n A) (hA : A ≤ n) (hn : n < A + s) (ho : ∀ x, x < A ∨ n ≤ x → G x = F x) (hG : SoR lt G A n ∧ SaS f G A n) : Blks lt f G s n ∧ SaS f G 0 n := by
  have key : ∀ p, s ∣ p → p < n → SoR lt G p (min (p + s) n) ∧ SaS f G p (min (p + s) n) := fun p p1 p2 => by
    by_cases hp : p < A
    · have h2 := dvd_next hs p1 h.dv hp
      obtain ⟨h3, h4⟩ := h.ok p p1 hp
      rw [Nat.min_eq_left (by omega)]
      refine ⟨fun x y x1 x2 x3 => by rw [ho x (by omega), ho y (by omega)]; exact h3 x y x1 x2 x3, fun x x1 x2 => ?_, fun x x1 x2 => ?_⟩
      · obtain ⟨y, y1, y2, y3⟩ := h4.1 x x1 x2; exact ⟨y, y1, y2, by rw [ho y (by omega)]; exact y3⟩
      · obtain ⟨y, y1, y2, y3⟩ := h4.2 x x1 x2; exact ⟨y, y1, y2, by rw [ho x (by omega)]; exact y3⟩
    · have h5 : p = A := by
        apply Decidable.byContradiction; intro h7
        have := dvd_next hs h.dv p1 (by omega)
        omega
      subst h5
      rw [Nat.min_eq_right (by omega)]; exact hG
  refine ⟨key, ?_⟩
  constructor
  · intro x _ hx
    obtain ⟨q, hq⟩ : ∃ q, q = x / s * s := ⟨_, rfl⟩
    have h1 : s ∣ q := ⟨x / s, by rw [hq, Nat.mul_comm]⟩
    have h2 := Nat.div_add_mod' x s
    have h3 := Nat.mod_lt x hs
    obtain ⟨_, h4⟩ := key q h1 (by omega)
    obtain ⟨y, y1, y2, y3⟩ := h4.1 x (by omega) (by omega)
    exact ⟨y, Nat.zero_le _, by omega, y3⟩
  · intro x _ hx
    obtain ⟨q, hq⟩ : ∃ q, q = x / s * s := ⟨_, rfl⟩
    have h1 : s ∣ q := ⟨x / s, by rw [hq, Nat.mul_comm]⟩
    have h2 := Nat.div_add_mod' x s
    have h3 := Nat.mod_lt x hs
    obtain ⟨_, h4⟩ := key q h1 (by omega)
    obtain ⟨y, y1, y2, y3⟩ := h4.2 x (by omega) (by omega)
    exact ⟨y, Nat.zero_le _, by omega, y3⟩
theorem Blks.mrg {lt : Int → Int → Bool} {f F0 F : Nat → Int} {s n p q : Nat} (hu : ∀ x y, x < y → y < n → f x < f y) (hs : 0 < s) (h : Blks lt f F0 s n) (hp : s ∣ p) (hm : p + s < q) (hqn : q ≤ n) (hx : q = p + s + s ∨ (q = n ∧ n ≤ p + s + s)) (he : ∀ x, p ≤ x → F x = F0 x) : MrgI lt F p (p + s) q ∧ SaS f F p q := by
  obtain ⟨a1, a2⟩ := h p hp (by omega)
  obtain ⟨b1, b2⟩ := h (p + s) (Nat.dvd_add hp (Nat.dvd_refl _)) (by omega)
  rw [Nat.min_eq_left (by omega)] at a1 a2
  rw [show min (p + s + s) n = q by omega] at b1 b2
  have a3 : SaS f F p (p + s) := ⟨fun x x1 x2 => by obtain ⟨y, y1, y2, y3⟩ := a2.1 x x1 x2; exact ⟨y, y1, y2, by rw [he y (by omega)]; exact y3⟩, fun x x1 x2 => by obtain ⟨y, y1, y2, y3⟩ := a2.2 x x1 x2; exact ⟨y, y1, y2, by rw [he x (by omega)]; exact y3⟩⟩
  have b3 : SaS f F (p + s) q := ⟨fun x x1 x2 => by obtain ⟨y, y1, y2, y3⟩ := b2.1 x x1 x2; exact ⟨y, y1, y2, by rw [he y (by omega)]; exact y3⟩, fun x x1 x2 => by obtain ⟨y, y1, y2, y3⟩ := b2.2 x x1 x2; exact ⟨y, y1, y2, by rw [he x (by omega)]; exact y3⟩⟩
  refine ⟨⟨fun x y x1 x2 x3 => by rw [he x (by omega), he y (by omega)]; exact a1 x y x1 x2 x3, fun x y x1 x2 x3 => by rw [he x (by omega), he y (by omega)]; exact b1 x y x1 x2 x3, fun x y x1 x2 x3 x4 => ?_⟩, SaS.join a3 b3 (by omega) (by omega)⟩
  obtain ⟨x', x1', x2', x3'⟩ := a3.2 x x1 x2
  obtain ⟨y', y1', y2', y3'⟩ := b3.2 y x3 x4
  rw [x3', y3']
  exact hu _ _ (by omega) (by omega)
theorem Blks.rest {lt : Int → Int → Bool} {f F0 F : Nat → Int} {s n p : Nat} (h : Blks lt f F0 s n) (hp : s ∣ p) (hpn : p ≤ n) (hn : n ≤ p + s) (he : ∀ x, p ≤ x → F x = F0 x) : SoR lt F p n ∧ SaS f F p n := by
  by_cases h0 : p = n
  · subst h0; exact ⟨fun x y h1 h2 h3 => by omega, fun x h1 h2 => by omega, fun x h1 h2 => by omega⟩
  · obtain ⟨a1, a2⟩ := h p hp (by omega)
    rw [Nat.min_eq_right hn] at a1 a2
    exact ⟨fun x y x1 x2 x3 => by rw [he x (by omega), he y (by omega)]; exact a1 x y x1 x2 x3, fun x x1 x2 => by obtain ⟨y, y1, y2, y3⟩ := a2.1 x x1 x2; exact ⟨y, y1, y2, by rw [he y (by omega)]; exact y3⟩, fun x x1 x2 => by obtain ⟨y, y1, y2, y3⟩ := a2.2 x x1 x2; exact ⟨y, y1, y2, by rw [he x (by omega)]; exact y3⟩⟩
theorem Blks.whole {lt : Int → Int → Bool} {f F : Nat → Int} {s n : Nat} (h : Blks lt f F s n) (hs : n ≤ s) : SoR lt F 0 n := by
  by_cases h0 : n = 0
  · subst h0; exact fun x y h1 h2 h3 => by omega
  · obtain ⟨a1, _⟩ := h 0 (Nat.dvd_zero _) (by omega)
    rw [show min (0 + s) n = n by omega] at a1
    exact a1

theorem stable_w (cf : Int → Int → Int) (Good : Int → Prop) (B : Nat) (cb : Nat) (a : Option Addr) (n c : Nat) (e1 e2 e3 e4 e5 e6 e7 e8 e9 e10 : Ent) (hw : Swo (ltC cf)) (hn : n ≤ 1000000) (hcmp : ∀ (w1 : World) (x y : Int), Good x → Good y → Sat B w1 [(5001, e1), (5002, e2)] → B ≤ w1.heap.size → Calls Try.prog 122 #[.int .i64 x, .int .i64 y, .pointer (some ⟨cb, 0, none⟩)] w1 fun e w' => e = .returned (.int .i64 (cf x y)) ∧ Below w1.heap.size w1 w') (f : Nat → Int) (w : World) (hB : B ≤ w.heap.size) (hu : ∀ x y, x < y → y < n → f x < f y) (hG : ∀ i, i < n → Good (f i)) (hs : Sat B w [(5000, .row a n c (encI.enc (tab n f)) 3 1), (5001, e1), (5002, e2), (5003, e3), (5004, e4), (5005, e5), (5006, e6), (5007, e7), (5008, e8), (5009, e9), (5010, e10)]) :
    Calls Try.prog 133 #[.slice a n c, .int .i64 n, .func (.func 122) #[] #[.pointer (some ⟨cb, 0, none⟩)]] w fun e w' => ∃ g, e = .returned (.tuple #[]) ∧ Below B w w' ∧ Sat B w' [(5000, .row a n c (encI.enc (tab n g)) 3 1), (5001, e1), (5002, e2), (5003, e3), (5004, e4), (5005, e5), (5006, e6), (5007, e7), (5008, e8), (5009, e9), (5010, e10)] ∧ B ≤ w'.heap.size ∧ Kd (fun _ => False) w w' ∧ SoR (ltC cf) g 0 n ∧ SaS f g 0 n := by

  refine enterQ (N := 63) (C := fun _ => False) (H := [(5000, .row a n c (encI.enc (tab n f)) 3 1), (5001, e1), (5002, e2), (5003, e3), (5004, e4), (5005, e5), (5006, e6), (5007, e7), (5008, e8), (5009, e9), (5010, e10)]) (B := B) (args := [_, _, _]) Try.func133 rfl rfl rfl (hB) (hs) fun Q hQ => ?_
  refine wp_seq' fun K1 hK1 => ?_
  refine wp_reg ?_
  refine ol_r (r_assign rfl) rfl ?_
  refine ol_nil (to_k0 (fun _ _ h => h) (hK1 _ _ _ _ _ ?_))
  clear hK1
  refine wp_seq' fun K2 hK2 => ?_
  refine wp_reg ?_
  refine ol_r (r_move rfl) rfl ?_
  refine ol_r (r_assign rfl) rfl ?_
  refine ol_r (r_assign rfl) rfl ?_
  refine ol_nil (to_k0 (fun _ _ h => h) (hK2 _ _ _ _ _ ?_))
  clear hK2
  refine wp_seq' fun K3 hK3 => ?_
  refine wp_block' ?_
  apply wp_loopM (σ := Nat × (Nat → Int)) (fun s => s.1 ≤ n ∧ Hlf (ltC cf) f f s.2 20 n s.1 ∧ SaS f s.2 0 n) (fun s => [(7, .int .i64 s.1), (8, .int .i64 ((s.1 + 20 : Nat) : Int))]) [(0, _), (1, _), (2, _), (6, _)] (fun s => [(5000, .row a n c (encI.enc (tab n s.2)) 3 1)]) [(5001, _), (5002, _), (5003, _), (5004, _), (5005, _), (5006, _), (5007, _), (5008, _), (5009, _), (5010, _)] (fun s => n - s.1) ((0, f))
  ·try dsimp only
   exact ⟨Nat.zero_le _, Hlf.zero, SaS.refl _ _ _⟩
  ·exact (sub_cons rfl (sub_cons rfl sub_nil))
  ·exact (sub_cons rfl (sub_cons rfl (sub_cons rfl (sub_cons rfl sub_nil))))
  ·exact (subH_row rfl (by first | (dsimp only; rfl; done) | (rfl; done) | (dsimp only; done)) subH_nil)
  ·exact (subH_same rfl (subH_same rfl (subH_same rfl (subH_same rfl (subH_same rfl (subH_same rfl (subH_same rfl (subH_same rfl (subH_same rfl (subH_same rfl subH_nil))))))))))
  ·rintro ⟨A, F⟩ ⟨hA, hH, hS⟩
   dsimp only at hA hH hS ⊢
   have hGF := good_of hG hS
   intro K4 hK4
   refine wp_seq' fun K5 hK5 => ?_
   refine wp_seq' fun K6 hK6 => ?_
   refine wp_reg ?_
   refine ol_r (r_move rfl) rfl ?_
   refine ol_r (r_move rfl) rfl ?_
   refine ol_r (r_leq rfl rfl) rfl ?_
   refine ol_nil (to_k0 (fun _ _ h => h) (hK6 _ _ _ _ _ ?_))
   clear hK6
   first | refine wp_condD rfl (fun hc13 => ?_) (fun hc13 => ?_) | refine wp_condN rfl (fun hc13 => ?_) (fun hc13 => ?_) | refine wp_condNB rfl (fun hc13 => ?_) (fun hc13 => ?_) | refine wp_cond' rfl (fun hc13 => ?_) (fun hc13 => ?_)
   ·refine wp_skip' (to_k0 (fun _ _ h => h) (hK5 _ _ _ _ _ ?_))
    clear hK5
    refine wp_block' ?_
    refine wp_seq' fun K7 hK7 => ?_
    refine wp_reg ?_
    refine ol_r (r_move rfl) rfl ?_
    refine ol_r (r_move rfl) rfl ?_
    refine ol_r (r_move rfl) rfl ?_
    refine ol_r (r_move rfl) rfl ?_
    refine ol_call rfl rfl cb144 rfl (fun w1 hb1 hs1 hB1 => ?_)
    refine Calls.mono (insertion_w cf Good B cb a n c e1 e2 e3 e4 e5 e6 e7 e8 e9 e10 F A (A + 20) _ hw hB1 hn (by omega) (by omega) hGF (fun x y x1 x2 x3 => by rw [hH.un x x1, hH.un y (by omega)]; exact hu x y x2 (by omega)) hcmp (hs1.sub (subH_same rfl (subH_same rfl (subH_same rfl (subH_same rfl (subH_same rfl (subH_same rfl (subH_same rfl (subH_same rfl (subH_same rfl (subH_same rfl (subH_same rfl subH_nil))))))))))))) ?_
    rintro e w2 ⟨g, rfl, hb2, hs2, hB2, hk2, hg⟩
    refine After.sat rfl hb1 hb2 hs2 hB2 (hk2.imp fun _ h => h.elim) ?_
    clear hk2 hs2 hb2 hB2 hB1 hs1 hb1 w2 w1
    refine ol_nil (to_k0 (fun _ _ h => h) (hK7 _ _ _ _ _ ?_))
    clear hK7
    refine wp_seq' fun K8 hK8 => ?_
    refine wp_reg ?_
    refine ol_r (r_move rfl) rfl ?_
    refine ol_r (r_assign rfl) rfl ?_
    refine ol_nil (to_k0 (fun _ _ h => h) (hK8 _ _ _ _ _ ?_))
    clear hK8
    refine wp_reg ?_
    refine ol_r (r_move rfl) rfl ?_
    refine ol_r (r_move rfl) rfl ?_
    refine ol_r (r_addT (A + 20 + 20) rfl rfl (by omega) (by omega)) rfl ?_
    refine ol_r (r_assign rfl) rfl ?_
    refine ol_nil (to_k0 (fun _ _ h => h) (hK4 ((A + 20, _)) _ _ ?_ ?_ (sub_cons rfl (sub_cons rfl sub_nil)) (sub_cons rfl (sub_cons rfl (sub_cons rfl (sub_cons rfl sub_nil)))) (by exact (subH_row rfl (by first | (dsimp only; rfl; done) | (rfl; done) | (dsimp only; done)) subH_nil)) (subH_same rfl (subH_same rfl (subH_same rfl (subH_same rfl (subH_same rfl (subH_same rfl (subH_same rfl (subH_same rfl (subH_same rfl (subH_same rfl subH_nil))))))))))))
    ·try dsimp only
     exact ⟨by omega, hH.next (by omega) (fun x hx => hg.out x hx) (hg.cong fun x x1 x2 => hH.un x x1), hS.trans (hg.all (by omega) (by omega))⟩
    ·try dsimp only
     omega
   ·refine wp_exit' (to_k0 (fun _ _ h => h) (hK3 _ _ _ _ _ ?_))
    clear hK3
    refine wp_seq' fun K9 hK9 => ?_
    refine wp_reg ?_
    refine ol_r (r_move rfl) rfl ?_
    refine ol_r (r_move rfl) rfl ?_
    refine ol_r (r_move rfl) rfl ?_
    refine ol_r (r_move rfl) rfl ?_
    refine ol_call rfl rfl cb144 rfl (fun w1 hb1 hs1 hB1 => ?_)
    refine Calls.mono (insertion_w cf Good B cb a n c e1 e2 e3 e4 e5 e6 e7 e8 e9 e10 F A n _ hw hB1 hn (Nat.le_refl _) (by omega) hGF (fun x y x1 x2 x3 => by rw [hH.un x x1, hH.un y (by omega)]; exact hu x y x2 (by omega)) hcmp (hs1.sub (subH_same rfl (subH_same rfl (subH_same rfl (subH_same rfl (subH_same rfl (subH_same rfl (subH_same rfl (subH_same rfl (subH_same rfl (subH_same rfl (subH_same rfl subH_nil))))))))))))) ?_
    rintro e w2 ⟨g, rfl, hb2, hs2, hB2, hk2, hg⟩
    refine After.sat rfl hb1 hb2 hs2 hB2 (hk2.imp fun _ h => h.elim) ?_
    clear hk2 hs2 hb2 hB2 hB1 hs1 hb1 w2 w1
    refine ol_nil (to_k0 (fun _ _ h => h) (hK9 _ _ _ _ _ ?_))
    clear hK9
    refine wp_block' ?_
    apply wp_loopM (σ := Nat × (Nat → Int)) (fun s => 0 < s.1 ∧ s.1 ≤ 4000000 ∧ Blks (ltC cf) f s.2 s.1 n ∧ SaS f s.2 0 n) (fun s => [(6, .int .i64 s.1)]) [(0, _), (1, _), (2, _)] (fun s => [(5000, .row a n c (encI.enc (tab n s.2)) 3 1)]) [(5001, _), (5002, _), (5003, _), (5004, _), (5005, _), (5006, _), (5007, _), (5008, _), (5009, _), (5010, _)] (fun s => n - s.1) ((20, _))
    ·try dsimp only
     have hL := hH.last (by omega) hA (by omega) (fun x hx => hg.out x hx) (hg.cong fun x x1 x2 => hH.un x x1)
     exact ⟨by omega, by omega, hL.1, hL.2⟩
    ·exact (sub_cons rfl sub_nil)
    ·exact (sub_cons rfl (sub_cons rfl (sub_cons rfl sub_nil)))
    ·exact (subH_row rfl (by first | (dsimp only; rfl; done) | (rfl; done) | (dsimp only; done)) subH_nil)
    ·exact (subH_same rfl (subH_same rfl (subH_same rfl (subH_same rfl (subH_same rfl (subH_same rfl (subH_same rfl (subH_same rfl (subH_same rfl (subH_same rfl subH_nil))))))))))
    ·rintro ⟨u, F⟩ ⟨hu0, hu1, hK, hS⟩
     dsimp only at hu0 hu1 hK hS ⊢
     intro K10 hK10
     refine wp_seq' fun K11 hK11 => ?_
     refine wp_seq' fun K12 hK12 => ?_
     refine wp_reg ?_
     refine ol_r (r_move rfl) rfl ?_
     refine ol_r (r_move rfl) rfl ?_
     refine ol_r (r_lss rfl rfl) rfl ?_
     refine ol_nil (to_k0 (fun _ _ h => h) (hK12 _ _ _ _ _ ?_))
     clear hK12
     first | refine wp_condD rfl (fun hc30 => ?_) (fun hc30 => ?_) | refine wp_condN rfl (fun hc30 => ?_) (fun hc30 => ?_) | refine wp_condNB rfl (fun hc30 => ?_) (fun hc30 => ?_) | refine wp_cond' rfl (fun hc30 => ?_) (fun hc30 => ?_)
     ·refine wp_skip' (to_k0 (fun _ _ h => h) (hK11 _ _ _ _ _ ?_))
      clear hK11
      refine wp_block' ?_
      refine wp_seq' fun K13 hK13 => ?_
      refine wp_reg ?_
      refine ol_r (r_move rfl) rfl ?_
      refine ol_r (r_mulT (2 * u) rfl rfl (by omega) (by omega)) rfl ?_
      refine ol_r (r_assign rfl) rfl ?_
      refine ol_r (r_assign rfl) rfl ?_
      refine ol_nil (to_k0 (fun _ _ h => h) (hK13 _ _ _ _ _ ?_))
      clear hK13
      refine wp_seq' fun K14 hK14 => ?_
      refine wp_block' ?_
      apply wp_loopM (σ := Nat × (Nat → Int)) (fun s => s.1 ≤ n ∧ Hlf (ltC cf) f F s.2 (2 * u) n s.1 ∧ SaS f s.2 0 n) (fun s => [(7, .int .i64 s.1), (8, .int .i64 ((s.1 + 2 * u : Nat) : Int))]) [(0, _), (1, _), (2, _), (6, _)] (fun s => [(5000, .row a n c (encI.enc (tab n s.2)) 3 1)]) [(5001, _), (5002, _), (5003, _), (5004, _), (5005, _), (5006, _), (5007, _), (5008, _), (5009, _), (5010, _)] (fun s => n - s.1) ((0, F))
      ·try dsimp only
       exact ⟨Nat.zero_le _, Hlf.zero, hS⟩
      ·exact (sub_cons (by first | rfl | (rw [Nat.zero_add]; rfl)) (sub_cons (by first | rfl | (rw [Nat.zero_add]; rfl)) sub_nil))
      ·exact (sub_cons rfl (sub_cons rfl (sub_cons rfl (sub_cons rfl sub_nil))))
      ·exact (subH_row rfl (by first | (dsimp only; rfl; done) | (rfl; done) | (dsimp only; done)) subH_nil)
      ·exact (subH_same rfl (subH_same rfl (subH_same rfl (subH_same rfl (subH_same rfl (subH_same rfl (subH_same rfl (subH_same rfl (subH_same rfl (subH_same rfl subH_nil))))))))))
      ·rintro ⟨A, G⟩ ⟨hA, hH, hSG⟩
       dsimp only at hA hH hSG ⊢
       have hGG := good_of hG hSG
       have hdv : u ∣ A := Nat.dvd_trans ⟨2, by omega⟩ hH.dv
       intro K15 hK15
       refine wp_seq' fun K16 hK16 => ?_
       refine wp_seq' fun K17 hK17 => ?_
       refine wp_reg ?_
       refine ol_r (r_move rfl) rfl ?_
       refine ol_r (r_move rfl) rfl ?_
       refine ol_r (r_leq rfl rfl) rfl ?_
       refine ol_nil (to_k0 (fun _ _ h => h) (hK17 _ _ _ _ _ ?_))
       clear hK17
       first | refine wp_condD rfl (fun hc35 => ?_) (fun hc35 => ?_) | refine wp_condN rfl (fun hc35 => ?_) (fun hc35 => ?_) | refine wp_condNB rfl (fun hc35 => ?_) (fun hc35 => ?_) | refine wp_cond' rfl (fun hc35 => ?_) (fun hc35 => ?_)
       ·refine wp_skip' (to_k0 (fun _ _ h => h) (hK16 _ _ _ _ _ ?_))
        clear hK16
        refine wp_block' ?_
        refine wp_seq' fun K18 hK18 => ?_
        refine wp_reg ?_
        refine ol_r (r_move rfl) rfl ?_
        refine ol_r (r_move rfl) rfl ?_
        refine ol_r (r_move rfl) rfl ?_
        refine ol_r (r_move rfl) rfl ?_
        have hMr := Blks.mrg (q := A + 2 * u) hu hu0 hK hdv (by omega) (by omega) (.inl (by omega)) hH.un
        refine ol_r (r_addT (A + u) rfl rfl (by omega) (by omega)) rfl ?_
        refine ol_r (r_move rfl) rfl ?_
        refine ol_r (r_move rfl) rfl ?_
        refine ol_call rfl rfl cb145 rfl (fun w1 hb1 hs1 hB1 => ?_)
        refine Calls.mono (symMerge_w cf Good B cb a n c e1 e2 e3 e4 e5 e6 e7 e8 e9 e10 hw hn hcmp (u + u) A (A + u) (A + 2 * u) G _ (by omega) hB1 (by omega) (by omega) (by omega) hGG hMr.1 (hs1.sub (subH_same rfl (subH_same rfl (subH_same rfl (subH_same rfl (subH_same rfl (subH_same rfl (subH_same rfl (subH_same rfl (subH_same rfl (subH_same rfl (subH_same rfl subH_nil))))))))))))) ?_
        rintro e w2 ⟨g, rfl, hb2, hs2, hB2, hk2, hg⟩
        refine After.sat rfl hb1 hb2 hs2 hB2 (hk2.imp fun _ h => h.elim) ?_
        clear hk2 hs2 hb2 hB2 hB1 hs1 hb1 w2 w1
        refine ol_nil (to_k0 (fun _ _ h => h) (hK18 _ _ _ _ _ ?_))
        clear hK18
        refine wp_seq' fun K19 hK19 => ?_
        refine wp_reg ?_
        refine ol_r (r_move rfl) rfl ?_
        refine ol_r (r_assign rfl) rfl ?_
        refine ol_nil (to_k0 (fun _ _ h => h) (hK19 _ _ _ _ _ ?_))
        clear hK19
        refine wp_reg ?_
        refine ol_r (r_move rfl) rfl ?_
        refine ol_r (r_move rfl) rfl ?_
        refine ol_r (r_mulT (2 * u) rfl rfl (by omega) (by omega)) rfl ?_
        refine ol_r (r_addT (A + 2 * u + 2 * u) rfl rfl (by omega) (by omega)) rfl ?_
        refine ol_r (r_assign rfl) rfl ?_
        refine ol_nil (to_k0 (fun _ _ h => h) (hK15 ((A + 2 * u, _)) _ _ ?_ ?_ (sub_cons rfl (sub_cons rfl sub_nil)) (sub_cons rfl (sub_cons rfl (sub_cons rfl (sub_cons rfl sub_nil)))) (by exact (subH_row rfl (by first | (dsimp only; rfl; done) | (rfl; done) | (dsimp only; done)) subH_nil)) (subH_same rfl (subH_same rfl (subH_same rfl (subH_same rfl (subH_same rfl (subH_same rfl (subH_same rfl (subH_same rfl (subH_same rfl (subH_same rfl subH_nil))))))))))))
        ·try dsimp only
         exact ⟨by omega, hH.next (by omega) (fun x hx => hg.out x hx) ⟨hg.so, hMr.2.trans hg.sa⟩, hSG.trans (hg.all (by omega) (by omega))⟩
        ·try dsimp only
         omega
       ·refine wp_exit' (to_k0 (fun _ _ h => h) (hK14 _ _ _ _ _ ?_))
        clear hK14
        apply wp_seq_cutM (σ := Nat → Int) (fun s => Blks (ltC cf) f s (2 * u) n ∧ SaS f s 0 n) (fun s => []) [(0, _), (1, _), (2, _), (6, _)] (fun s => [(5000, .row a n c (encI.enc (tab n s)) 3 1)]) [(5001, _), (5002, _), (5003, _), (5004, _), (5005, _), (5006, _), (5007, _), (5008, _), (5009, _), (5010, _)]
        ·exact (sub_cons rfl (sub_cons rfl (sub_cons rfl (sub_cons rfl sub_nil))))
        ·exact (subH_same rfl (subH_same rfl (subH_same rfl (subH_same rfl (subH_same rfl (subH_same rfl (subH_same rfl (subH_same rfl (subH_same rfl (subH_same rfl subH_nil))))))))))
        ·intro K20 hK20
         refine wp_seq' fun K21 hK21 => ?_
         refine wp_reg ?_
         refine ol_r (r_move rfl) rfl ?_
         refine ol_r (r_move rfl) rfl ?_
         refine ol_r (r_addT (A + u) rfl rfl (by omega) (by omega)) rfl ?_
         refine ol_r (r_assign rfl) rfl ?_
         refine ol_nil (to_k0 (fun _ _ h => h) (hK21 _ _ _ _ _ ?_))
         clear hK21
         refine wp_seq' fun K22 hK22 => ?_
         refine wp_reg ?_
         refine ol_r (r_move rfl) rfl ?_
         refine ol_r (r_move rfl) rfl ?_
         refine ol_r (r_lss rfl rfl) rfl ?_
         refine ol_nil (to_k0 (fun _ _ h => h) (hK22 _ _ _ _ _ ?_))
         clear hK22
         first | refine wp_condD rfl (fun hc54 => ?_) (fun hc54 => ?_) | refine wp_condN rfl (fun hc54 => ?_) (fun hc54 => ?_) | refine wp_condNB rfl (fun hc54 => ?_) (fun hc54 => ?_) | refine wp_cond' rfl (fun hc54 => ?_) (fun hc54 => ?_)
         ·refine wp_reg ?_
          have hMr := Blks.mrg (q := n) hu hu0 hK hdv (by omega) (by omega) (.inr ⟨rfl, by omega⟩) hH.un
          refine ol_r (r_move rfl) rfl ?_
          refine ol_r (r_move rfl) rfl ?_
          refine ol_r (r_move rfl) rfl ?_
          refine ol_r (r_move rfl) rfl ?_
          refine ol_r (r_move rfl) rfl ?_
          refine ol_call rfl rfl cb145 rfl (fun w1 hb1 hs1 hB1 => ?_)
          refine Calls.mono (symMerge_w cf Good B cb a n c e1 e2 e3 e4 e5 e6 e7 e8 e9 e10 hw hn hcmp (u + u) A (A + u) n G _ (by omega) hB1 (by omega) (by omega) (by omega) hGG hMr.1 (hs1.sub (subH_same rfl (subH_same rfl (subH_same rfl (subH_same rfl (subH_same rfl (subH_same rfl (subH_same rfl (subH_same rfl (subH_same rfl (subH_same rfl (subH_same rfl subH_nil))))))))))))) ?_
          rintro e w2 ⟨g, rfl, hb2, hs2, hB2, hk2, hg⟩
          refine After.sat rfl hb1 hb2 hs2 hB2 (hk2.imp fun _ h => h.elim) ?_
          clear hk2 hs2 hb2 hB2 hB1 hs1 hb1 w2 w1
          refine ol_nil (to_k0 (fun _ _ h => h) (hK20 (_) _ _ ?_ sub_nil (sub_cons rfl (sub_cons rfl (sub_cons rfl (sub_cons rfl sub_nil)))) (subH_row rfl (by first | (dsimp only; rfl; done) | (rfl; done) | (dsimp only; done)) subH_nil) (subH_same rfl (subH_same rfl (subH_same rfl (subH_same rfl (subH_same rfl (subH_same rfl (subH_same rfl (subH_same rfl (subH_same rfl (subH_same rfl subH_nil))))))))))))
          try dsimp only
          first
          | exact hH.last (by omega) hA (by omega) (fun x hx => hg.out x hx) ⟨hg.so, hMr.2.trans hg.sa⟩
          | exact hH.last (by omega) hA (by omega) (fun _ _ => rfl) (Blks.rest hK hdv hA (by omega) hH.un)
         ·refine wp_skip' (to_k0 (fun _ _ h => h) (hK20 (_) _ _ ?_ sub_nil (sub_cons rfl (sub_cons rfl (sub_cons rfl (sub_cons rfl sub_nil)))) (subH_row rfl (by first | (dsimp only; rfl; done) | (rfl; done) | (dsimp only; done)) subH_nil) (subH_same rfl (subH_same rfl (subH_same rfl (subH_same rfl (subH_same rfl (subH_same rfl (subH_same rfl (subH_same rfl (subH_same rfl (subH_same rfl subH_nil))))))))))))
          try dsimp only
          first
          | exact hH.last (by omega) hA (by omega) (fun x hx => hg.out x hx) ⟨hg.so, hMr.2.trans hg.sa⟩
          | exact hH.last (by omega) hA (by omega) (fun _ _ => rfl) (Blks.rest hK hdv hA (by omega) hH.un)
        ·rintro G2 ⟨hL1, hL2⟩
         refine wp_reg ?_
         refine ol_r (r_move rfl) rfl ?_
         refine ol_r (r_mulT (2 * u) rfl rfl (by omega) (by omega)) rfl ?_
         refine ol_r (r_assign rfl) rfl ?_
         refine ol_nil (to_k0 (fun _ _ h => h) (hK10 ((2 * u, _)) _ _ ?_ ?_ (sub_cons rfl sub_nil) (sub_cons rfl (sub_cons rfl (sub_cons rfl sub_nil))) (by exact (subH_row rfl (by first | (dsimp only; rfl; done) | (rfl; done) | (dsimp only; done)) subH_nil)) (subH_same rfl (subH_same rfl (subH_same rfl (subH_same rfl (subH_same rfl (subH_same rfl (subH_same rfl (subH_same rfl (subH_same rfl (subH_same rfl subH_nil))))))))))))
         ·try dsimp only
          exact ⟨by omega, by omega, hL1, hL2⟩
         ·try dsimp only
          omega
     ·refine wp_exit' (hQ.fall rvs0 (fun _ _ h => h) fun w hb hs hB hkd => ?_)
      exact ⟨_, rfl, hb, hs.sub (subH_same rfl (subH_same rfl (subH_same rfl (subH_same rfl (subH_same rfl (subH_same rfl (subH_same rfl (subH_same rfl (subH_same rfl (subH_same rfl (subH_same rfl subH_nil))))))))))), hB, hkd, hK.whole (by omega), hS⟩

theorem sortStable_w (cf : Int → Int → Int) (Good : Int → Prop) (B : Nat) (cb : Nat) (a : Option Addr) (n c : Nat) (e1 e2 e3 e4 e5 e6 e7 e8 e9 e10 : Ent) (hw : Swo (ltC cf)) (hn : n ≤ 1000000) (hcmp : ∀ (w1 : World) (x y : Int), Good x → Good y → Sat B w1 [(5001, e1), (5002, e2)] → B ≤ w1.heap.size → Calls Try.prog 122 #[.int .i64 x, .int .i64 y, .pointer (some ⟨cb, 0, none⟩)] w1 fun e w' => e = .returned (.int .i64 (cf x y)) ∧ Below w1.heap.size w1 w') (f : Nat → Int) (w : World) (hB : B ≤ w.heap.size) (hu : ∀ x y, x < y → y < n → f x < f y) (hG : ∀ i, i < n → Good (f i)) (hs : Sat B w [(5000, .row a n c (encI.enc (tab n f)) 3 1), (5001, e1), (5002, e2), (5003, e3), (5004, e4), (5005, e5), (5006, e6), (5007, e7), (5008, e8), (5009, e9), (5010, e10)]) :
    Calls Try.prog 102 #[.slice a n c, .func (.func 122) #[] #[.pointer (some ⟨cb, 0, none⟩)]] w fun e w' => ∃ g, e = .returned (.tuple #[]) ∧ Below B w w' ∧ Sat B w' [(5000, .row a n c (encI.enc (tab n g)) 3 1), (5001, e1), (5002, e2), (5003, e3), (5004, e4), (5005, e5), (5006, e6), (5007, e7), (5008, e8), (5009, e9), (5010, e10)] ∧ B ≤ w'.heap.size ∧ Kd (fun _ => False) w w' ∧ SoR (ltC cf) g 0 n ∧ SaS f g 0 n := by

  refine enterQ (N := 9) (C := fun _ => False) (H := [(5000, .row a n c (encI.enc (tab n f)) 3 1), (5001, e1), (5002, e2), (5003, e3), (5004, e4), (5005, e5), (5006, e6), (5007, e7), (5008, e8), (5009, e9), (5010, e10)]) (B := B) (args := [_, _]) Try.func102 rfl rfl rfl (hB) (hs) fun Q hQ => ?_
  refine wp_reg ?_
  refine ol_r (r_move rfl) rfl ?_
  refine ol_r (r_move rfl) rfl ?_
  refine ol_r (r_len rfl sl61) rfl ?_
  refine ol_r (r_move rfl) rfl ?_
  refine ol_call rfl rfl cb133 rfl (fun w1 hb1 hs1 hB1 => ?_)
  refine Calls.mono (stable_w cf Good B cb a n c e1 e2 e3 e4 e5 e6 e7 e8 e9 e10 hw hn hcmp f _ hB1 hu hG (hs1.sub (subH_same rfl (subH_same rfl (subH_same rfl (subH_same rfl (subH_same rfl (subH_same rfl (subH_same rfl (subH_same rfl (subH_same rfl (subH_same rfl (subH_same rfl subH_nil))))))))))))) ?_
  rintro e w2 ⟨g, rfl, hb2, hs2, hB2, hk2, hg⟩
  refine After.sat rfl hb1 hb2 hs2 hB2 (hk2.imp fun _ h => h.elim) ?_
  clear hk2 hs2 hb2 hB2 hB1 hs1 hb1 w2 w1
  refine ol_nil (hQ.fall rvs0 (fun _ _ h => h) fun w hb hs hB hkd => ?_)
  exact ⟨_, rfl, hb, hs.sub (subH_same rfl (subH_same rfl (subH_same rfl (subH_same rfl (subH_same rfl (subH_same rfl (subH_same rfl (subH_same rfl (subH_same rfl (subH_same rfl (subH_same rfl subH_nil))))))))))), hB, hkd, hg⟩

end Go.Proofs.Ytfbmkepogcimlaa

/-
  A total by weights: quant.Parts.
-/



namespace Go.Proofs.Ytfbmkepogcimlaa
open Go Go.RowKit Hx
set_option linter.unusedVariables false
set_option linter.unusedSimpArgs false
set_option maxRecDepth 8000
def cfR (rs : List Int) (i k : Int) : Int := gcmpI (rs.getD k.toNat 0) (rs.getD i.toNat 0)
theorem cfR_lt (rs : List Int) : ltC (cfR rs) = ltR rs := by
  funext x y
  unfold ltC cfR ltR gcmpI
  rw [Bool.eq_iff_iff, decide_eq_true_iff, decide_eq_true_iff]
  split
  · omega
  · split <;> omega
theorem parts_cmp (rs : List Int) (B cb : Nat) (pa : Option Addr) (pn pc : Nat) (w : World) (x y : Int) (hx : 0 ≤ x ∧ x.toNat < rs.length) (hy : 0 ≤ y ∧ y.toNat < rs.length) (hpn : pn = rs.length)
    (hs : Sat B w [(5001, .blk cb [(0, .slice pa pn pc)] 61), (5002, .row pa pn pc (encI.enc rs) 3 1)]) (hB : B ≤ w.heap.size) :
    Calls Try.prog 122 #[.int .i64 x, .int .i64 y, .pointer (some ⟨cb, 0, none⟩)] w fun e w' => e = .returned (.int .i64 (cfR rs x y)) ∧ Below w.heap.size w w' := by
  have hb0 := hs.blk (id := 5001) rfl
  have hr0 := Sat.rd hs (E := encI) (xs := rs) (id := 5002) rfl rfl
  refine enterQ (N := 15) (C := fun _ => True) (H := []) (B := w.heap.size) (args := [_, _, _]) Try.func122 rfl rfl rfl (Nat.le_refl _) (Sat.nil _ _) fun Q hQ => ?_
  refine wp_seq' fun K1 hK1 => ?_
  refine wp_reg ?_
  refine ol_r (r_assign rfl) rfl ?_
  refine ol_nil (to_k0 (fun _ _ h => h) (hK1 _ _ _ _ _ ?_))
  clear hK1
  refine wp_seq' fun K2 hK2 => ?_
  refine wp_regq (by kernel_rfl) (by kernel_rfl) ?_
  refine ql_r (r_ldw rfl (fun w1 hb1 hs1 hB1 => Blk.loads (o := 0) hb0 hb1 sc61 rfl)) rfl ?_
  refine ql_r (r_move rfl) rfl ?_
  refine ql_ixr hr0 rfl rfl sl61 (by omega) rfl fun x8 hx8 => ?_
  try simp only [Int.toNat_natCast] at hx8
  refine ql_r (r_ldw rfl (fun w1 hb1 hs1 hB1 => show Loads _ _ _ _ (.int .i64 x8) from Rd.loads hr0 ty3 hx8 hb1)) rfl ?_
  refine ql_r (r_ldw rfl (fun w1 hb1 hs1 hB1 => Blk.loads (o := 0) hb0 hb1 sc61 rfl)) rfl ?_
  refine ql_r (r_move rfl) rfl ?_
  refine ql_ixr hr0 rfl rfl sl61 (by omega) rfl fun x12 hx12 => ?_
  try simp only [Int.toNat_natCast] at hx12
  refine ql_r (r_ldw rfl (fun w1 hb1 hs1 hB1 => show Loads _ _ _ _ (.int .i64 x12) from Rd.loads hr0 ty3 hx12 hb1)) rfl ?_
  refine ql_call rfl rfl cb75 rfl (fun w1 hb1 hs1 hB1 => gar_Compare _ _ _) ?_
  refine ql_r (r_assign rfl) rfl ?_
  refine ql_nil (to_k0 (fun _ _ h => h) (hK2 _ _ _ _ _ ?_))
  clear hK2
  refine hQ.ret (rvs1 (rv_t rfl)) (fun _ _ h => h) fun w hb hs hB hkd => ?_
  exact ⟨by unfold cfR; rw [List.getD_eq_getElem?_getD, List.getD_eq_getElem?_getD, hx8, hx12]; rfl, hb⟩
def fillK (xs : List Int) (n k : Nat) : List Int := xs.take k ++ List.replicate (n - k) 0
theorem fillK_zero (xs : List Int) (n : Nat) : List.replicate n (0 : Int) = fillK xs n 0 := by simp [fillK]
theorem fillK_len {xs : List Int} {n k : Nat} (h : k ≤ xs.length) (hk : k ≤ n) : (fillK xs n k).length = n := by rw [fillK, List.length_append, List.length_take, List.length_replicate]; omega
theorem fillK_set {xs : List Int} {n k : Nat} {x : Int} (hx : xs[k]? = some x) (hk : k < n) : (fillK xs n k).set k x = fillK xs n (k + 1) := by
  have hl := (List.getElem?_eq_some_iff.1 hx).1
  have h1 : (xs.take k).length = k := by rw [List.length_take]; omega
  rw [fillK, fillK, List.set_append_right _ _ (by omega), h1, Nat.sub_self, List.take_add_one, hx, show n - k = (n - (k + 1)) + 1 by omega, List.replicate_succ, List.set_cons_zero]
  simp
theorem fillK_get {xs : List Int} {n k : Nat} {x y : Int} (hx : xs[k]? = some x) (hk : k < n) (hy : ((fillK xs n k).set k x)[k]? = some y) : y = x := by
  rw [fillK_set hx hk, fillK] at hy
  have hl := (List.getElem?_eq_some_iff.1 hx).1
  rw [List.getElem?_append_left (by rw [List.length_take]; omega), List.getElem?_take_of_lt (by omega), hx] at hy
  cases hy; rfl
theorem fillK_full {xs : List Int} {n : Nat} (h : xs.length = n) : fillK xs n n = xs := by subst h; simp [fillK]
theorem incL_bd {out l : List Int} {v : Int} (h : ∀ x ∈ out, 0 ≤ x) (hl : ∀ i ∈ l, i.toNat < out.length) (hv : v ∈ incL out l) : 0 ≤ v ∧ v ≤ out.sum + l.length := by
  have h1 := incL_nonneg l out h
  have h2 := mem_le_sum h1 v hv
  rw [incL_sum l out hl] at h2
  exact ⟨h1 v hv, h2⟩
theorem encI_take (m : Nat) (xs : List Int) : (encI.enc xs).take (m * 1) = encI.enc (xs.take m) := by
  rw [Nat.mul_one]
  induction xs generalizing m with
  | nil => simp [Enc.enc]
  | cons x r ih =>
    cases m with
    | zero => rfl
    | succ m =>
      rw [show encI.enc (x :: r) = Value.int .i64 x :: encI.enc r from rfl, List.take_succ_cons, List.take_succ_cons, ih m]; rfl
theorem incL_take {out l : List Int} {k : Nat} {i v : Int} (hi : l[k]? = some i) (hv : (incL out (l.take k))[i.toNat]? = some v) : (incL out (l.take k)).set i.toNat (v + 1) = incL out (l.take (k + 1)) := by
  rw [take_succ_get hi, incL_snoc, List.getD_eq_getElem?_getD, hv]; rfl
theorem prod_bd {t x : Int} (ht : 0 ≤ t ∧ t ≤ 1000000000) (hx : 0 ≤ x ∧ x ≤ 1000000) : 0 ≤ t * x ∧ t * x ≤ 1000000000000000 := by
  have h1 := Int.mul_nonneg ht.1 hx.1
  have h2 := Int.mul_le_mul ht.2 hx.2 hx.1 (by omega)
  omega
theorem quant_Parts (total : Int) (a : Option Addr) (n c : Nat) (ws : List Int) (w : World) (hl : Rd encI w.heap.size w a n c ws) (ht : 0 ≤ total ∧ total ≤ 1000000000) (hw : ∀ x ∈ ws, 0 ≤ x) (hs0 : 0 < ws.sum ∧ ws.sum ≤ 1000000) (hn : n ≤ 1000000) :
    Calls Try.prog 90 #[.int .i64 total, .slice a n c] w fun e w' => ∃ b m k, e = .returned (.slice b m k) ∧ Fresh encI 3 w w' b m k (partsR total ws) := by
  have hln := hl.len
  obtain ⟨qs, hqs⟩ : ∃ qs, qs = qsL total ws.sum ws := ⟨_, rfl⟩
  obtain ⟨rs, hrs⟩ : ∃ rs, rs = rsL total ws.sum ws := ⟨_, rfl⟩
  have hql : qs.length = n := by rw [hqs, qsL, List.length_map, hln]
  have hrl : rs.length = n := by rw [hrs, rsL, List.length_map, hln]
  have hlb := left_bd ht.1 hw hs0.1
  rw [← hqs] at hlb
  refine enterQ (N := 89) (C := fun _ => True) (H := []) (B := w.heap.size) (args := [_, _]) Try.func90 rfl rfl rfl (Nat.le_refl _) (Sat.nil _ _) fun Q hQ => ?_
  refine wp_seq' fun K1 hK1 => ?_
  refine wp_reg ?_
  refine ol_r (r_assign rfl) rfl ?_
  refine ol_nil (to_k0 (fun _ _ h => h) (hK1 _ _ _ _ _ ?_))
  clear hK1
  refine wp_seq' fun K2 hK2 => ?_
  refine wp_reg ?_
  refine ol_r (r_assign rfl) rfl ?_
  refine ol_nil (to_k0 (fun _ _ h => h) (hK2 _ _ _ _ _ ?_))
  clear hK2
  refine wp_seq' fun K3 hK3 => ?_
  refine wp_seq' fun K4 hK4 => ?_
  refine wp_reg ?_
  refine ol_r (r_move rfl) rfl ?_
  refine ol_r (r_len rfl sl61) rfl ?_
  refine ol_r (r_move rfl) rfl ?_
  refine ol_nil (to_k0 (fun _ _ h => h) (hK4 _ _ _ _ _ ?_))
  clear hK4
  refine wp_block' ?_
  apply wp_loopM (σ := Nat × Int) (fun s => s.1 ≤ n ∧ s.2 = (ws.take s.1).sum) (fun s => [(18, .int .i64 s.1), (5, .int .i64 s.2)]) [(0, _), (1, _), (4, _), (16, _), (17, _)] (fun s => []) [] (fun s => n - s.1) ((0, 0))
  ·try dsimp only
   exact ⟨Nat.zero_le _, rfl⟩
  ·exact (sub_cons rfl (sub_cons rfl sub_nil))
  ·exact (sub_cons rfl (sub_cons rfl (sub_cons rfl (sub_cons rfl (sub_cons rfl sub_nil)))))
  ·exact subH_nil
  ·exact subH_nil
  ·rintro ⟨k1, S⟩ ⟨hk1, hS⟩
   dsimp only at hk1 hS ⊢
   have hp1 := sum_take_le hw k1
   intro K5 hK5
   refine wp_seq' fun K6 hK6 => ?_
   refine wp_reg ?_
   refine ol_r (r_lss rfl rfl) rfl ?_
   refine ol_nil (to_k0 (fun _ _ h => h) (hK6 _ _ _ _ _ ?_))
   clear hK6
   refine wp_seq' fun K7 hK7 => ?_
   first | refine wp_condD rfl (fun hc19 => ?_) (fun hc19 => ?_) | refine wp_condN rfl (fun hc19 => ?_) (fun hc19 => ?_) | refine wp_condNB rfl (fun hc19 => ?_) (fun hc19 => ?_) | refine wp_cond' rfl (fun hc19 => ?_) (fun hc19 => ?_)
   ·refine wp_skip' (to_k0 (fun _ _ h => h) (hK7 _ _ _ _ _ ?_))
    clear hK7
    refine wp_seq' fun K8 hK8 => ?_
    refine wp_block' ?_
    refine wp_seq' fun K9 hK9 => ?_
    refine wp_reg ?_
    refine ol_ixr hl rfl rfl sl61 (by omega) rfl fun x20 hx20 => ?_
    try simp only [Int.toNat_natCast] at hx20
    refine ol_r (r_ldw rfl (fun w1 hb1 hs1 hB1 => show Loads _ _ _ _ (.int .i64 x20) from Rd.loads hl ty3 hx20 hb1)) rfl ?_
    refine ol_r (r_assign rfl) rfl ?_
    refine ol_nil (to_k0 (fun _ _ h => h) (hK9 _ _ _ _ _ ?_))
    clear hK9
    refine wp_reg ?_
    refine ol_r (r_move rfl) rfl ?_
    refine ol_r (r_move rfl) rfl ?_
    have hxm := hw x20 (List.mem_of_getElem? hx20)
    have hxm2 := mem_le_sum hw x20 (List.mem_of_getElem? hx20)
    refine ol_r (r_add rfl rfl (by omega)) rfl ?_
    refine ol_r (r_assign rfl) rfl ?_
    refine ol_nil (to_k0 (fun _ _ h => h) (hK8 _ _ _ _ _ ?_))
    clear hK8
    refine wp_reg ?_
    refine ol_r (r_add rfl rfl (by omega)) rfl ?_
    refine ol_r (r_move rfl) rfl ?_
    refine ol_nil (to_k0 (fun _ _ h => h) (hK5 ((k1 + 1, _)) _ _ ?_ ?_ (sub_cons rfl (sub_cons rfl sub_nil)) (sub_cons rfl (sub_cons rfl (sub_cons rfl (sub_cons rfl (sub_cons rfl sub_nil))))) (by exact subH_nil) subH_nil))
    ·try dsimp only
     exact ⟨by omega, by rw [take_succ_get hx20, sum_snoc, ← hS]⟩
    ·try dsimp only
     omega
   ·refine wp_exit' (to_k0 (fun _ _ h => h) (hK3 _ _ _ _ _ ?_))
    clear hK3
    refine wp_seq' fun K10 hK10 => ?_
    refine wp_reg ?_
    rw [List.take_of_length_le (by omega)] at hS
    subst hS
    refine ol_r (r_move rfl) rfl ?_
    refine ol_r (r_len rfl sl61) rfl ?_
    refine ol_make encI (0) 28 rfl rfl rw61 z3 rfl rfl (by omega) rfl fun a28 => ?_
    refine ol_r (r_assign rfl) rfl ?_
    refine ol_nil (to_k0 (fun _ _ h => h) (hK10 _ _ _ _ _ ?_))
    clear hK10
    refine wp_seq' fun K11 hK11 => ?_
    refine wp_reg ?_
    refine ol_r (r_move rfl) rfl ?_
    refine ol_r (r_len rfl sl61) rfl ?_
    refine ol_make encI (0) 31 rfl rfl rw61 z3 rfl rfl (by omega) rfl fun a31 => ?_
    refine ol_alloc 9 z61 rfl fun b9 => ?_
    refine ol_store (id := 9) rfl rfl rfl rfl sz61 rfl rfl (by first | decide | exact Nat.zero_lt_succ _ | simp) ?_
    refine ol_nil (to_k0 (fun _ _ h => h) (hK11 _ _ _ _ _ ?_))
    clear hK11
    refine wp_seq' fun K12 hK12 => ?_
    refine wp_reg ?_
    refine ol_r (r_move rfl) rfl ?_
    refine ol_r (r_len rfl sl61) rfl ?_
    refine ol_make encI (0) 34 rfl rfl rw61 z3 rfl rfl (by omega) rfl fun a34 => ?_
    refine ol_r (r_assign rfl) rfl ?_
    refine ol_nil (to_k0 (fun _ _ h => h) (hK12 _ _ _ _ _ ?_))
    clear hK12
    refine wp_seq' fun K13 hK13 => ?_
    refine wp_reg ?_
    refine ol_r (r_move rfl) rfl ?_
    refine ol_r (r_assign rfl) rfl ?_
    refine ol_nil (to_k0 (fun _ _ h => h) (hK13 _ _ _ _ _ ?_))
    clear hK13
    refine wp_seq' fun K14 hK14 => ?_
    refine wp_seq' fun K15 hK15 => ?_
    refine wp_reg ?_
    refine ol_r (r_move rfl) rfl ?_
    refine ol_r (r_len rfl sl61) rfl ?_
    refine ol_r (r_move rfl) rfl ?_
    refine ol_nil (to_k0 (fun _ _ h => h) (hK15 _ _ _ _ _ ?_))
    clear hK15
    refine wp_block' ?_
    apply wp_loopM (σ := Nat × Int) (fun s => s.1 ≤ n ∧ s.2 = total - (qs.take s.1).sum) (fun s => [(38, .int .i64 s.1), (11, .int .i64 s.2)]) [(0, _), (4, _), (5, _), (8, _), (9, _), (10, _), (36, _), (37, _)] (fun s => [(28, .row a28 n n (encI.enc (fillK qs n s.1)) 3 1), (31, .row a31 n n (encI.enc (fillK rs n s.1)) 3 1), (34, .row a34 n n (encI.enc (fillK (tab n fun i => (i : Int)) n s.1)) 3 1)]) [(9, _)] (fun s => n - s.1) ((0, total))
    ·try dsimp only
     exact ⟨Nat.zero_le _, by simp⟩
    ·exact (sub_cons rfl (sub_cons rfl sub_nil))
    ·exact (sub_cons rfl (sub_cons rfl (sub_cons rfl (sub_cons rfl (sub_cons rfl (sub_cons rfl (sub_cons rfl (sub_cons rfl sub_nil))))))))
    ·exact (subH_row rfl (by first | (dsimp only; exact congrArg encI.enc (fillK_zero _ _).symm; done) | (exact congrArg encI.enc (fillK_zero _ _).symm; done) | (dsimp only; done)) (subH_row rfl (by first | (dsimp only; exact congrArg encI.enc (fillK_zero _ _).symm; done) | (exact congrArg encI.enc (fillK_zero _ _).symm; done) | (dsimp only; done)) (subH_row rfl (by first | (dsimp only; exact congrArg encI.enc (fillK_zero _ _).symm; done) | (exact congrArg encI.enc (fillK_zero _ _).symm; done) | (dsimp only; done)) subH_nil)))
    ·exact (subH_same rfl subH_nil)
    ·rintro ⟨k, left⟩ ⟨hk, hleft⟩
     dsimp only at hk hleft ⊢
     have hqk := qs_take_le ht.1 hw hs0.1 k
     rw [← hqs] at hqk
     intro K16 hK16
     refine wp_seq' fun K17 hK17 => ?_
     refine wp_reg ?_
     refine ol_r (r_lss rfl rfl) rfl ?_
     refine ol_nil (to_k0 (fun _ _ h => h) (hK17 _ _ _ _ _ ?_))
     clear hK17
     refine wp_seq' fun K18 hK18 => ?_
     first | refine wp_condD rfl (fun hc39 => ?_) (fun hc39 => ?_) | refine wp_condN rfl (fun hc39 => ?_) (fun hc39 => ?_) | refine wp_condNB rfl (fun hc39 => ?_) (fun hc39 => ?_) | refine wp_cond' rfl (fun hc39 => ?_) (fun hc39 => ?_)
     ·refine wp_skip' (to_k0 (fun _ _ h => h) (hK18 _ _ _ _ _ ?_))
      clear hK18
      refine wp_seq' fun K19 hK19 => ?_
      refine wp_block' ?_
      refine wp_seq' fun K20 hK20 => ?_
      refine wp_reg ?_
      refine ol_r (r_move rfl) rfl ?_
      refine ol_ixr hl rfl rfl sl61 (by omega) rfl fun x41 hx41 => ?_
      try simp only [Int.toNat_natCast] at hx41
      refine ol_r (r_ldw rfl (fun w1 hb1 hs1 hB1 => show Loads _ _ _ _ (.int .i64 x41) from Rd.loads hl ty3 hx41 hb1)) rfl ?_
      refine ol_r (r_assign rfl) rfl ?_
      refine ol_r (r_assign rfl) rfl ?_
      refine ol_nil (to_k0 (fun _ _ h => h) (hK20 _ _ _ _ _ ?_))
      clear hK20
      refine wp_seq' fun K21 hK21 => ?_
      refine wp_rega [(999, [(9, _)]), (18, [(28, _)]), (20, [(31, _)]), (22, [(34, _)])] (by kernel_rfl) ⟨.inr (subH_same rfl subH_nil), ⟨.inr (subH_same rfl subH_nil), ⟨.inr (subH_same rfl subH_nil), ⟨.inr (subH_same rfl subH_nil), trivial⟩⟩⟩⟩ ?_
      have hxb : 0 ≤ x41 ∧ x41 ≤ 1000000 := ⟨hw x41 (List.mem_of_getElem? hx41), by have := mem_le_sum hw x41 (List.mem_of_getElem? hx41); omega⟩
      have hpb := prod_bd ht hxb
      have hqx : qs[k]? = some (total * x41 / ws.sum) := by rw [hqs, qsL, List.getElem?_map, hx41]; rfl
      have hrx : rs[k]? = some (total * x41 % ws.sum) := by rw [hrs, rsL, List.getElem?_map, hx41]; rfl
      have hkn : k < n := by omega
      have hL1 := fillK_len (n := n) (show k ≤ qs.length by omega) (by omega)
      have hL2 := fillK_len (n := n) (show k ≤ rs.length by omega) (by omega)
      have hL3 := fillK_len (n := n) (xs := tab n fun i => (i : Int)) (k := k) (by rw [tab_len]; omega) (by omega)
      have htx : (tab n fun i => (i : Int))[k]? = some (k : Int) := tab_at (by omega)
      refine aq_r 0 999 rfl (by kernel_rfl) (by kernel_rfl) (by kernel_rfl) (.head _) (by kernel_rfl) (by kernel_rfl) rfl (r_move rfl) ?_
      refine aq_r 1 999 rfl (by kernel_rfl) (by kernel_rfl) (by kernel_rfl) (.head _) (by kernel_rfl) (by kernel_rfl) rfl (r_move rfl) ?_
      refine aq_r 2 999 rfl (by kernel_rfl) (by kernel_rfl) (by kernel_rfl) (.head _) (by kernel_rfl) (by kernel_rfl) rfl (r_ld (id := 9) rfl rfl rfl sc61) ?_
      refine aq_r 3 999 rfl (by kernel_rfl) (by kernel_rfl) (by kernel_rfl) (.head _) (by kernel_rfl) (by kernel_rfl) rfl (r_move rfl) ?_
      refine aq_r 4 999 rfl (by kernel_rfl) (by kernel_rfl) (by kernel_rfl) (.head _) (by kernel_rfl) (by kernel_rfl) rfl (r_move rfl) ?_
      refine aq_r 5 999 rfl (by kernel_rfl) (by kernel_rfl) (by kernel_rfl) (.head _) (by kernel_rfl) (by kernel_rfl) rfl (r_move rfl) ?_
      refine aq_r 6 999 rfl (by kernel_rfl) (by kernel_rfl) (by kernel_rfl) (.head _) (by kernel_rfl) (by kernel_rfl) rfl (r_move rfl) ?_
      refine aq_r 7 999 rfl (by kernel_rfl) (by kernel_rfl) (by kernel_rfl) (.head _) (by kernel_rfl) (by kernel_rfl) rfl (r_move rfl) ?_
      refine aq_r 8 999 rfl (by kernel_rfl) (by kernel_rfl) (by kernel_rfl) (.head _) (by kernel_rfl) (by kernel_rfl) rfl (r_mul rfl rfl (by omega)) ?_
      refine aq_r 9 999 rfl (by kernel_rfl) (by kernel_rfl) (by kernel_rfl) (.head _) (by kernel_rfl) (by kernel_rfl) rfl (r_move rfl) ?_
      first | refine aq_r 10 999 rfl (by kernel_rfl) (by kernel_rfl) (by kernel_rfl) (.head _) (by kernel_rfl) (by kernel_rfl) rfl (r_quo rfl rfl (by omega)) ?_ | refine aq_r 10 999 rfl (by kernel_rfl) (by kernel_rfl) (by kernel_rfl) (.head _) (by kernel_rfl) (by kernel_rfl) rfl (r_tquo rfl rfl (by omega)) ?_
      refine aq_r 11 999 rfl (by kernel_rfl) (by kernel_rfl) (by kernel_rfl) (.head _) (by kernel_rfl) (by kernel_rfl) rfl (r_move rfl) ?_
      refine aq_r 12 999 rfl (by kernel_rfl) (by kernel_rfl) (by kernel_rfl) (.head _) (by kernel_rfl) (by kernel_rfl) rfl (r_move rfl) ?_
      refine aq_r 13 999 rfl (by kernel_rfl) (by kernel_rfl) (by kernel_rfl) (.head _) (by kernel_rfl) (by kernel_rfl) rfl (r_mul rfl rfl (by omega)) ?_
      refine aq_r 14 999 rfl (by kernel_rfl) (by kernel_rfl) (by kernel_rfl) (.head _) (by kernel_rfl) (by kernel_rfl) rfl (r_move rfl) ?_
      first | refine aq_r 15 999 rfl (by kernel_rfl) (by kernel_rfl) (by kernel_rfl) (.head _) (by kernel_rfl) (by kernel_rfl) rfl (r_rem rfl rfl (by omega)) ?_ | refine aq_r 15 999 rfl (by kernel_rfl) (by kernel_rfl) (by kernel_rfl) (.head _) (by kernel_rfl) (by kernel_rfl) rfl (r_trem rfl rfl (by omega)) ?_
      refine aq_r 16 999 rfl (by kernel_rfl) (by kernel_rfl) (by kernel_rfl) (.head _) (by kernel_rfl) (by kernel_rfl) rfl (r_move rfl) ?_
      refine aq_ixo 17 18 rfl (by kernel_rfl) (by kernel_rfl) (by kernel_rfl) (.tail _ (.head _)) (by kernel_rfl) (by kernel_rfl) rfl (id := 28) encI _ rfl rfl rfl rfl sl61 (by omega) (by omega) fun x60 hx60 => ?_
      try simp only [Int.toNat_natCast] at hx60
      try simp only [Int.toNat_natCast] at hx60
      refine aq_one (i := 18) (by kernel_rfl) rfl fun K22 hK22 => ?_
      refine ol_storeRow (id := 28) _ _ _ rfl rfl rfl rfl sz3 (by omega) ?_
      refine ol_nil (to_k0 (fun _ _ h => h) (hK22 _ _ ⟨.inr (by repeat' first | exact subH_nil | refine subH_same rfl ?_ | (refine subH_blk rfl (by repeat' first | exact sub_nil | refine sub_cons rfl ?_) ?_)), ⟨.inl (by kernel_rfl), ⟨.inr (by repeat' first | exact subH_nil | refine subH_same rfl ?_ | (refine subH_blk rfl (by repeat' first | exact sub_nil | refine sub_cons rfl ?_) ?_)), ⟨.inr (by repeat' first | exact subH_nil | refine subH_same rfl ?_ | (refine subH_blk rfl (by repeat' first | exact sub_nil | refine sub_cons rfl ?_) ?_)), trivial⟩⟩⟩⟩ ?_))
      clear hK22
      refine aq_ixo 19 20 rfl (by kernel_rfl) (by kernel_rfl) (by kernel_rfl) (.tail _ (.tail _ (.head _))) (by kernel_rfl) (by kernel_rfl) rfl (id := 31) encI _ rfl rfl rfl rfl sl61 (by omega) (by omega) fun x61 hx61 => ?_
      try simp only [Int.toNat_natCast] at hx61
      try simp only [Int.toNat_natCast] at hx61
      refine aq_one (i := 20) (by kernel_rfl) rfl fun K23 hK23 => ?_
      refine ol_storeRow (id := 31) _ _ _ rfl rfl rfl rfl sz3 (by omega) ?_
      refine ol_nil (to_k0 (fun _ _ h => h) (hK23 _ _ ⟨.inr (by repeat' first | exact subH_nil | refine subH_same rfl ?_ | (refine subH_blk rfl (by repeat' first | exact sub_nil | refine sub_cons rfl ?_) ?_)), ⟨.inl (by kernel_rfl), ⟨.inl (by kernel_rfl), ⟨.inr (by repeat' first | exact subH_nil | refine subH_same rfl ?_ | (refine subH_blk rfl (by repeat' first | exact sub_nil | refine sub_cons rfl ?_) ?_)), trivial⟩⟩⟩⟩ ?_))
      clear hK23
      refine aq_ixo 21 22 rfl (by kernel_rfl) (by kernel_rfl) (by kernel_rfl) (.tail _ (.tail _ (.tail _ (.head _)))) (by kernel_rfl) (by kernel_rfl) rfl (id := 34) encI _ rfl rfl rfl rfl sl61 (by omega) (by omega) fun x62 hx62 => ?_
      try simp only [Int.toNat_natCast] at hx62
      try simp only [Int.toNat_natCast] at hx62
      refine aq_one (i := 22) (by kernel_rfl) rfl fun K24 hK24 => ?_
      refine ol_storeRow (id := 34) _ _ _ rfl rfl rfl rfl sz3 (by omega) ?_
      refine ol_nil (to_k0 (fun _ _ h => h) (hK24 _ _ ⟨.inr (by repeat' first | exact subH_nil | refine subH_same rfl ?_ | (refine subH_blk rfl (by repeat' first | exact sub_nil | refine sub_cons rfl ?_) ?_)), ⟨.inl (by kernel_rfl), ⟨.inl (by kernel_rfl), ⟨.inl (by kernel_rfl), trivial⟩⟩⟩⟩ ?_))
      clear hK24
      refine aq_done (by kernel_rfl) ?_
      refine (to_k0 (fun _ _ h => h) (hK21 _ _ _ _ _ ?_))
      clear hK21
      refine wp_reg ?_
      refine ol_r (r_move rfl) rfl ?_
      refine ol_r (r_move rfl) rfl ?_
      refine ol_r (r_move rfl) rfl ?_
      refine ol_ixo (id := 28) encI _ rfl rfl rfl rfl sl61 (by omega) rfl fun x66 hx66 => ?_
      try simp only [Int.toNat_natCast] at hx66
      try simp only [Int.toNat_natCast] at hx66
      refine ol_r (r_ldw rfl (fun w1 hb1 hs1 hB1 => show Loads _ _ _ _ (.int .i64 x66) from ld_own (id := 28) hs1 rfl rfl ty3 hx66)) rfl ?_
      have hx66e := fillK_get hqx (by omega) hx66
      have hqn := qs_nonneg ht.1 hs0.1 hw (total * x41 / ws.sum) (by rw [← hqs]; exact List.mem_of_getElem? hqx)
      have hqn2 := qs_take_le ht.1 hw hs0.1 (k + 1)
      rw [← hqs, take_succ_get hqx, sum_snoc] at hqn2
      refine ol_r (r_sub rfl rfl (by omega)) rfl ?_
      refine ol_r (r_assign rfl) rfl ?_
      refine ol_nil (to_k0 (fun _ _ h => h) (hK19 _ _ _ _ _ ?_))
      clear hK19
      refine wp_reg ?_
      refine ol_r (r_add rfl rfl (by omega)) rfl ?_
      refine ol_r (r_move rfl) rfl ?_
      refine ol_nil (to_k0 (fun _ _ h => h) (hK16 ((k + 1, _)) _ _ ?_ ?_ (sub_cons rfl (sub_cons rfl sub_nil)) (sub_cons rfl (sub_cons rfl (sub_cons rfl (sub_cons rfl (sub_cons rfl (sub_cons rfl (sub_cons rfl (sub_cons rfl sub_nil)))))))) (by exact (subH_row rfl (by first | (dsimp only; first | exact congrArg encI.enc (fillK_set hqx hkn).symm | exact congrArg encI.enc (fillK_set hrx hkn).symm | exact congrArg encI.enc (fillK_set htx hkn).symm; done) | (first | exact congrArg encI.enc (fillK_set hqx hkn).symm | exact congrArg encI.enc (fillK_set hrx hkn).symm | exact congrArg encI.enc (fillK_set htx hkn).symm; done) | (dsimp only; done)) (subH_row rfl (by first | (dsimp only; first | exact congrArg encI.enc (fillK_set hqx hkn).symm | exact congrArg encI.enc (fillK_set hrx hkn).symm | exact congrArg encI.enc (fillK_set htx hkn).symm; done) | (first | exact congrArg encI.enc (fillK_set hqx hkn).symm | exact congrArg encI.enc (fillK_set hrx hkn).symm | exact congrArg encI.enc (fillK_set htx hkn).symm; done) | (dsimp only; done)) (subH_row rfl (by first | (dsimp only; first | exact congrArg encI.enc (fillK_set hqx hkn).symm | exact congrArg encI.enc (fillK_set hrx hkn).symm | exact congrArg encI.enc (fillK_set htx hkn).symm; done) | (first | exact congrArg encI.enc (fillK_set hqx hkn).symm | exact congrArg encI.enc (fillK_set hrx hkn).symm | exact congrArg encI.enc (fillK_set htx hkn).symm; done) | (dsimp only; done)) subH_nil)))) (subH_same rfl subH_nil)))
      ·try dsimp only
       exact ⟨by omega, by rw [take_succ_get hqx, sum_snoc, hleft, fillK_get hqx (by omega) hx66]; omega⟩
      ·try dsimp only
       omega
     ·refine wp_exit' (to_k0 (fun _ _ h => h) (hK14 _ _ _ _ _ ?_))
      clear hK14
      refine wp_seq' fun K25 hK25 => ?_
      refine wp_reg ?_
      obtain rfl : k = n := by omega
      rw [fillK_full hql, fillK_full hrl, fillK_full (tab_len _ _)]
      rw [List.take_of_length_le (by omega)] at hleft
      rw [← hleft] at hlb
      refine ol_r (r_move rfl) rfl ?_
      refine ol_r (r_func rfl) rfl ?_
      refine ol_call rfl rfl cb102 rfl (fun w1 hb1 hs1 hB1 => ?_)
      refine Calls.mono (sortStable_w (cfR rs) (fun x => 0 ≤ x ∧ x.toNat < rs.length) w.heap.size b9 _ _ _ _ _ _ .gone .gone .gone .gone .gone .gone .gone (by rw [cfR_lt]; exact ltR_swo _) hn (fun w3 i k gi gk hs3 hB3 => parts_cmp rs _ _ _ _ _ w3 i k gi gk hrl.symm hs3 hB3) (fun i => (i : Int)) _ hB1 (fun x y h _ => by omega) (fun i hi => ⟨by omega, by omega⟩) (((((((((hs1.forget 4004).forget 4005).forget 4006).forget 4007).forget 4008).forget 4009).forget 4010).forget 4011).kle [(34, 5000), (9, 5001), (31, 5002), (28, 5003), (4004, 5004), (4005, 5005), (4006, 5006), (4007, 5007), (4008, 5008), (4009, 5009), (4010, 5010)] (kle_cons rfl (Ent.le_refl _) (kle_cons rfl ⟨rfl, rfl, Sub.out (sub_cons rfl sub_nil)⟩ (kle_cons rfl (Ent.le_refl _) (kle_cons rfl (Ent.le_refl _) (kle_cons rfl (Ent.le_refl _) (kle_cons rfl (Ent.le_refl _) (kle_cons rfl (Ent.le_refl _) (kle_cons rfl (Ent.le_refl _) (kle_cons rfl (Ent.le_refl _) (kle_cons rfl (Ent.le_refl _) (kle_cons rfl (Ent.le_refl _) kle_nil))))))))))) (by decide))) ?_
      rintro e w2 ⟨g, rfl, hb2, hs2, hB2, hk2, hg1, hg2⟩
      have hg3 := ord_is (by rw [← cfR_lt]; exact hg1) hg2
      rw [hg3] at hs2
      refine After.sat rfl hb1 hb2 (hs2.kle [(5000, 34), (5001, 9), (5002, 31), (5003, 28)] (kle_cons rfl (Ent.le_refl _) (kle_cons rfl (Ent.le_refl _) (kle_cons rfl (Ent.le_refl _) (kle_cons rfl (Ent.le_refl _) kle_nil)))) (by decide)) hB2 (hk2.imp fun _ h => h.elim) ?_
      clear hg3 hg1 hg2 hk2 hs2 hb2 hB2 hB1 hs1 hb1 w2 w1
      refine ol_nil (to_k0 (fun _ _ h => h) (hK25 _ _ _ _ _ ?_))
      clear hK25
      refine wp_seq' fun K26 hK26 => ?_
      refine wp_seq' fun K27 hK27 => ?_
      refine wp_reg ?_
      refine ol_r (r_move rfl) rfl ?_
      refine ol_r (r_move rfl) rfl ?_
      refine ol_cutO (id := 34) rfl rfl rfl sl61 (by omega) (by omega) rfl ?_
      refine ol_r (r_len rfl sl61) rfl ?_
      refine ol_r (r_move rfl) rfl ?_
      refine ol_nil (to_k0 (fun _ _ h => h) (hK27 _ _ _ _ _ ?_))
      clear hK27
      refine wp_block' ?_
      apply wp_loopM (σ := Nat) (fun s => s ≤ left.toNat) (fun s => [(77, .int .i64 s)]) [(4, _), (8, _), (75, _), (76, _)] (fun s => [(28, .row a28 k k (encI.enc (incL qs (((gordL rs k).take left.toNat).take s))) 3 1), (34, .row a34 left.toNat k (encI.enc ((gordL rs k).take left.toNat)) 3 1)]) [(9, _), (31, _)] (fun s => left.toNat - s) (0)
      ·try dsimp only
       omega
      ·exact (sub_cons rfl sub_nil)
      ·exact (sub_cons rfl (sub_cons rfl (sub_cons rfl (sub_cons rfl sub_nil))))
      ·exact (subH_row rfl (by first | (dsimp only; rfl; done) | (rfl; done) | (dsimp only; done)) (subH_row rfl (by first | (dsimp only; exact (encI_take _ _).symm; done) | (exact (encI_take _ _).symm; done) | (dsimp only; done)) subH_nil))
      ·exact (subH_same rfl (subH_same rfl subH_nil))
      ·rintro j hj
       intro K28 hK28
       refine wp_seq' fun K29 hK29 => ?_
       refine wp_reg ?_
       refine ol_r (r_lss rfl rfl) rfl ?_
       refine ol_nil (to_k0 (fun _ _ h => h) (hK29 _ _ _ _ _ ?_))
       clear hK29
       refine wp_seq' fun K30 hK30 => ?_
       first | refine wp_condD rfl (fun hc78 => ?_) (fun hc78 => ?_) | refine wp_condN rfl (fun hc78 => ?_) (fun hc78 => ?_) | refine wp_condNB rfl (fun hc78 => ?_) (fun hc78 => ?_) | refine wp_cond' rfl (fun hc78 => ?_) (fun hc78 => ?_)
       ·refine wp_skip' (to_k0 (fun _ _ h => h) (hK30 _ _ _ _ _ ?_))
        clear hK30
        refine wp_seq' fun K31 hK31 => ?_
        refine wp_block' ?_
        refine wp_seq' fun K32 hK32 => ?_
        refine wp_reg ?_
        refine ol_ixo (id := 34) encI _ rfl rfl rfl rfl sl61 (by omega) rfl fun x79 hx79 => ?_
        try simp only [Int.toNat_natCast] at hx79
        try simp only [Int.toNat_natCast] at hx79
        refine ol_r (r_ldw rfl (fun w1 hb1 hs1 hB1 => show Loads _ _ _ _ (.int .i64 x79) from ld_own (id := 34) hs1 rfl rfl ty3 hx79)) rfl ?_
        refine ol_r (r_assign rfl) rfl ?_
        refine ol_nil (to_k0 (fun _ _ h => h) (hK32 _ _ _ _ _ ?_))
        clear hK32
        refine wp_reg ?_
        have hxr := ord_mem (List.mem_of_mem_take (List.mem_of_getElem? hx79))
        refine ol_r (r_move rfl) rfl ?_
        refine ol_r (r_move rfl) rfl ?_
        refine ol_ixo (id := 28) encI _ rfl rfl rfl rfl sl61 (by omega) rfl fun x83 hx83 => ?_
        try simp only [Int.toNat_natCast] at hx83
        try simp only [Int.toNat_natCast] at hx83
        refine ol_r (r_ldw rfl (fun w1 hb1 hs1 hB1 => show Loads _ _ _ _ (.int .i64 x83) from ld_own (id := 28) hs1 rfl rfl ty3 hx83)) rfl ?_
        have hxv := incL_bd (hqs ▸ qs_nonneg ht.1 hs0.1 hw) (fun i hi => by have := (ord_mem (List.mem_of_mem_take (List.mem_of_mem_take hi))).2; omega) (List.mem_of_getElem? hx83)
        rw [List.length_take, List.length_take] at hxv
        refine ol_r (r_add rfl rfl (by omega)) rfl ?_
        refine ol_ixo (id := 28) encI _ rfl rfl rfl rfl sl61 (by omega) rfl fun x86 hx86 => ?_
        try simp only [Int.toNat_natCast] at hx86
        try simp only [Int.toNat_natCast] at hx86
        refine ol_storeRow (id := 28) _ _ _ rfl rfl rfl rfl sz3 (by omega) ?_
        refine ol_nil (to_k0 (fun _ _ h => h) (hK31 _ _ _ _ _ ?_))
        clear hK31
        refine wp_reg ?_
        refine ol_r (r_add rfl rfl (by omega)) rfl ?_
        refine ol_r (r_move rfl) rfl ?_
        refine ol_nil (to_k0 (fun _ _ h => h) (hK28 (j + 1) _ _ ?_ ?_ (sub_cons rfl sub_nil) (sub_cons rfl (sub_cons rfl (sub_cons rfl (sub_cons rfl sub_nil)))) (by exact (subH_row rfl (by first | (dsimp only; exact congrArg encI.enc (incL_take hx79 hx83).symm; done) | (exact congrArg encI.enc (incL_take hx79 hx83).symm; done) | (dsimp only; done)) (subH_row rfl (by first | (dsimp only; rfl; done) | (rfl; done) | (dsimp only; done)) subH_nil))) (subH_same rfl (subH_same rfl subH_nil))))
        ·try dsimp only
         omega
        ·try dsimp only
         omega
       ·refine wp_exit' (to_k0 (fun _ _ h => h) (hK26 _ _ _ _ _ ?_))
        clear hK26
        refine wp_seq' fun K33 hK33 => ?_
        refine wp_reg ?_
        refine ol_r (r_move rfl) rfl ?_
        refine ol_r (r_assign rfl) rfl ?_
        refine ol_nil (to_k0 (fun _ _ h => h) (hK33 _ _ _ _ _ ?_))
        clear hK33
        refine hQ.ret (rvs1 (rv_t rfl)) (fun _ _ h => h) fun w hb hs hB hkd => ?_
        have hj : j = left.toNat := by omega
        rw [hj, List.take_of_length_le (by rw [List.length_take]; omega)] at hs
        refine ⟨_, _, _, rfl, hb, ?_⟩
        have h9 := hs.ok 28 _ rfl
        rw [partsR, ← hqs, ← hrs, hln, ← hleft]
        exact h9
end Go.Proofs.Ytfbmkepogcimlaa

/-
  Garages: the pieces of a use in a slot.
-/


namespace Go.Proofs.Ytfbmkepogcimlaa
open Go Go.RowKit Hx
set_option linter.unusedVariables false
set_option linter.unusedSimpArgs false
set_option maxRecDepth 8000
theorem addP_t {u : GUse} {slot part : ByteArray} {to : Int} {xs : List GPiece} {at_ : Int} (h : min to (u.fr + u.sec) > at_) : addP u slot part to (xs, at_) = (xs ++ [⟨u.name, slot, part, min to (u.fr + u.sec) - at_, 0⟩], min to (u.fr + u.sec)) := if_pos h
theorem addP_f {u : GUse} {slot part : ByteArray} {to : Int} {xs : List GPiece} {at_ : Int} (h : ¬min to (u.fr + u.sec) > at_) : addP u slot part to (xs, at_) = (xs, at_) := if_neg h
theorem pieces_add (u : GUse) (slot part : ByteArray) (to at_ : Int) (B b9 b8 b7 b3 b4 : Nat) (a : Option Addr) (n c : Nat) (xs : List GPiece) (e7 : Ent) (w : World) (hu : UseOk u) (ha : u.fr ≤ at_ ∧ at_ ≤ u.fr + u.sec) (hnx : n = xs.length) (hn : n ≤ 10000) (hB : B ≤ w.heap.size)
    (hs : Sat B w [(301, .blk b9 [(0, .int .i64 (u.fr + u.sec))] 3), (302, .blk b8 [(0, .int .i64 at_)] 3), (303, .blk b7 [(0, .slice a n c)] 28), (304, .blk b3 [(0, .string u.name), (1, .string u.rig), (2, .int .i64 u.fr), (3, .int .i64 u.sec), (4, .int .i64 u.way)] 46), (305, .blk b4 [(0, .string slot)] 9), (306, .row a n c (encGPiece.enc xs) 36 5), (307, e7)]) :
    Calls Try.prog 89 #[.string part, .int .i64 to, .pointer (some ⟨b9, 0, none⟩), .pointer (some ⟨b8, 0, none⟩), .pointer (some ⟨b7, 0, none⟩), .pointer (some ⟨b3, 0, none⟩), .pointer (some ⟨b4, 0, none⟩)] w fun e w' => ∃ a' n' c', e = .returned (.tuple #[]) ∧ Below B w w' ∧
      Sat B w' [(301, .blk b9 [(0, .int .i64 (u.fr + u.sec))] 3), (302, .blk b8 [(0, .int .i64 (addP u slot part to (xs, at_)).2)] 3), (303, .blk b7 [(0, .slice a' n' c')] 28), (304, .blk b3 [(0, .string u.name), (1, .string u.rig), (2, .int .i64 u.fr), (3, .int .i64 u.sec), (4, .int .i64 u.way)] 46), (305, .blk b4 [(0, .string slot)] 9), (306, .row a' n' c' (encGPiece.enc (addP u slot part to (xs, at_)).1) 36 5), (307, e7)] ∧ B ≤ w'.heap.size ∧ Kd (fun _ => False) w w' ∧ n' = (addP u slot part to (xs, at_)).1.length := by
  have hu1 := hu.fr
  have hu2 := hu.sec
  refine enterQ (N := 27) (C := fun _ => False) (H := [(301, .blk b9 [(0, .int .i64 (u.fr + u.sec))] 3), (302, .blk b8 [(0, .int .i64 at_)] 3), (303, .blk b7 [(0, .slice a n c)] 28), (304, .blk b3 [(0, .string u.name), (1, .string u.rig), (2, .int .i64 u.fr), (3, .int .i64 u.sec), (4, .int .i64 u.way)] 46), (305, .blk b4 [(0, .string slot)] 9), (306, .row a n c (encGPiece.enc xs) 36 5), (307, e7)]) (B := B) (args := [_, _, _, _, _, _, _]) Try.func89 rfl rfl rfl (hB) (hs) fun Q hQ => ?_
  refine wp_seq' fun K1 hK1 => ?_
  refine wp_reg ?_
  refine ol_r (r_move rfl) rfl ?_
  refine ol_r (r_ld (id := 301) rfl rfl rfl sc3) rfl ?_
  refine ol_r (r_min rfl rfl) rfl ?_
  refine ol_r (r_assign rfl) rfl ?_
  refine ol_nil (to_k0 (fun _ _ h => h) (hK1 _ _ _ _ _ ?_))
  clear hK1
  refine wp_seq' fun K2 hK2 => ?_
  refine wp_reg ?_
  refine ol_r (r_move rfl) rfl ?_
  refine ol_r (r_ld (id := 302) rfl rfl rfl sc3) rfl ?_
  refine ol_r (r_gtr rfl rfl) rfl ?_
  refine ol_nil (to_k0 (fun _ _ h => h) (hK2 _ _ _ _ _ ?_))
  clear hK2
  first | refine wp_condD rfl (fun hc14 => ?_) (fun hc14 => ?_) | refine wp_condN rfl (fun hc14 => ?_) (fun hc14 => ?_) | refine wp_condNB rfl (fun hc14 => ?_) (fun hc14 => ?_) | refine wp_cond' rfl (fun hc14 => ?_) (fun hc14 => ?_)
  ·refine wp_seq' fun K3 hK3 => ?_
   refine wp_reg ?_
   refine ol_r (r_ld (id := 303) rfl rfl rfl sc28) rfl ?_
   refine ol_r (r_fa (o' := 0) rfl fl46_0 rfl) rfl ?_
   refine ol_r (r_ld (id := 304) rfl rfl rfl sc9) rfl ?_
   refine ol_r (r_ld (id := 305) rfl rfl rfl sc9) rfl ?_
   refine ol_r (r_move rfl) rfl ?_
   refine ol_r (r_move rfl) rfl ?_
   refine ol_r (r_ld (id := 302) rfl rfl rfl sc3) rfl ?_
   refine ol_r (r_sub rfl rfl (by omega)) rfl ?_
   refine ol_r (r_build rfl (fun _ => bd36_0_1_2_3 _ _ _ _ _)) rfl ?_
   refine ol_bs1 24 rfl rfl rw28 rfl rfl rfl fun a24 => ?_
   refine ol_append1 (id := 306) (id2 := 24) rfl rfl rfl rfl rfl rw28 (by omega) rfl fun a25 c25 => ?_
   refine ol_store (id := 303) rfl rfl rfl rfl sz28 rfl rfl (by first | decide | exact Nat.zero_lt_succ _ | simp) ?_
   refine ol_nil (to_k0 (fun _ _ h => h) (hK3 _ _ _ _ _ ?_))
   clear hK3
   refine wp_reg ?_
   refine ol_r (r_move rfl) rfl ?_
   refine ol_store (id := 302) rfl rfl rfl rfl sz3 rfl rfl (by first | decide | exact Nat.zero_lt_succ _ | simp) ?_
   refine ol_nil (hQ.fall rvs0 (fun _ _ h => h) fun w hb hs hB hkd => ?_)
   rw [addP_t hc14]
   exact ⟨_, _, _, rfl, hb, hs.sub (subH_same rfl (subH_blk rfl (sub_cons rfl sub_nil) (subH_blk rfl (sub_cons rfl sub_nil) (subH_same rfl (subH_same rfl (subH_row rfl (by rw [Enc.enc_append]; rfl) (subH_same rfl subH_nil))))))), hB, hkd, by rw [List.length_append, hnx]; rfl⟩
  ·refine wp_skip' (hQ.fall rvs0 (fun _ _ h => h) fun w hb hs hB hkd => ?_)
   rw [addP_f hc14]
   exact ⟨_, _, _, rfl, hb, hs.sub (by repeat' first | exact subH_nil | refine subH_same rfl ?_), hB, hkd, hnx⟩
end Go.Proofs.Ytfbmkepogcimlaa

/-
  Between the library's contracts of sorting, which speak of worlds, and rows of the caller's.
-/


namespace Go.Proofs.Ytfbmkepogcimlaa.Hx
open Go Go.RowKit
set_option linter.unusedVariables false
set_option linter.unusedSimpArgs false
section
variable {w : World} {B g n cap size : Nat} {e : TypeId} {vs vs' : List Value}
theorem row_cells (h : w.ownsRow B e size (.slice (some ⟨g, 0, none⟩) n cap) n vs) : ∃ cur : Array Value, w.heap[g]? = some (.cells cur e (0, 0)) ∧ vs.length ≤ cur.size ∧ (∀ (j : Nat) (u : Value), vs[j]? = some u → cur[j]? = some u) := by
  obtain ⟨hl, h | ⟨g', cap', cur, hv, hb, hg, h1, h2, h3, h4⟩⟩ := h
  · cases h.1
  · cases hv
    have h5 := Nat.mul_le_mul_right size h1
    refine ⟨cur, hg, by omega, fun j u hj => ?_⟩
    rw [← h4, List.getElem?_take] at hj
    split at hj
    · simpa using hj
    · cases hj
/-- The world behind the sort: the row holds other values, draws, and new blocks. -/
def putW (w : World) (g nd : Nat) (vs : List Value) (os : Array Obj) : World := Go.Sort.grow (Go.Sort.putRow id (Go.Sort.ahead w nd) g 0 vs.toArray) os
theorem putW_size (w : World) (g nd : Nat) (vs : List Value) (os : Array Obj) : w.heap.size ≤ (putW w g nd vs os).heap.size := by
  simp [putW, Go.Sort.grow, Go.Sort.putRow, Go.Sort.mapBlock, Go.Sort.ahead]
theorem putW_at {g nd : Nat} {vs : List Value} {os : Array Obj} {cur : Array Value} {fr : Nat × Nat} (hg : w.heap[g]? = some (.cells cur e fr)) : (putW w g nd vs os).heap[g]? = some (.cells (Go.Sort.putCells id 0 vs.toArray cur) e fr) := by
  have hlt := (Array.getElem?_eq_some_iff.1 hg).1
  simp only [putW, Go.Sort.grow, Go.Sort.putRow, Go.Sort.mapBlock, Go.Sort.ahead]
  rw [Array.getElem?_append, if_pos (by simpa using hlt), Array.getElem?_modify, if_pos rfl, hg]
  rfl
theorem putW_other {g nd k : Nat} {vs : List Value} {os : Array Obj} (hk : k < w.heap.size) (hn : k ≠ g) : (putW w g nd vs os).heap[k]? = w.heap[k]? := by
  simp only [putW, Go.Sort.grow, Go.Sort.putRow, Go.Sort.mapBlock, Go.Sort.ahead]
  rw [Array.getElem?_append, if_pos (by simpa using hk), Array.getElem?_modify, if_neg (fun h => hn h.symm)]
theorem putW_row {nd : Nat} {os : Array Obj} (h : w.ownsRow B e size (.slice (some ⟨g, 0, none⟩) n cap) n vs) (hl : vs'.length = vs.length) : (putW w g nd vs' os).ownsRow B e size (.slice (some ⟨g, 0, none⟩) n cap) n vs' := by
  obtain ⟨h0, h | ⟨g', cap', cur, hv, hb, hg, h1, h2, h3, h4⟩⟩ := h
  · cases h.1
  · cases hv
    refine ⟨by rw [hl]; exact h0, .inr ⟨_, _, _, rfl, hb, putW_at hg, h1, h2, by simpa [Go.Sort.putCells] using h3, ?_⟩⟩
    have h5 := Nat.mul_le_mul_right size h1
    apply List.ext_getElem?
    intro j
    rw [List.getElem?_take]
    split
    · rename_i hj
      have hjc : j < cur.size := by omega
      have hjv : j < vs'.length := by omega
      simp [Go.Sort.putCells, hjc, hjv]
    · rename_i hj
      rw [List.getElem?_eq_none (by omega)]
end
theorem Sat.sorted {w : World} {B id g n cap size nd : Nat} {e : TypeId} {vs vs' : List Value} {H : HL} {os : Array Obj} (hs : Sat B w H) (hB : B ≤ w.heap.size) (hr : look H id = some (.row (some ⟨g, 0, none⟩) n cap vs e size)) (hl : vs'.length = vs.length) :
    Below B w (putW w g nd vs' os) ∧ Sat B (putW w g nd vs' os) ((id, .row (some ⟨g, 0, none⟩) n cap vs' e size) :: H) ∧ B ≤ (putW w g nd vs' os).heap.size ∧ Kd (fun _ => False) w (putW w g nd vs' os) := by
  have hok := hs.ok id _ hr
  have hlt := Ent.own_lt hok (b := g) rfl
  obtain ⟨cur, hg, _, _⟩ := row_cells hok
  refine ⟨⟨rfl, rfl, rfl, putW_size _ _ _ _ _, fun k hk => putW_other (by omega) (by omega), Nat.le_add_right _ _⟩, ?_, Nat.le_trans hB (putW_size _ _ _ _ _), ?_⟩
  · refine hs.turn hr (e' := .row (some ⟨g, 0, none⟩) n cap vs' e size) (putW_row hok hl) (fun k hk hne => putW_other hk fun h => hne (by rw [h]; rfl)) (fun b hb => .inl hb)
  · intro k o hk hc _
    by_cases h : k = g
    · subst h; rw [hg] at hk; cases hk; cases hc
    · rw [putW_other (Array.getElem?_eq_some_iff.1 hk).1 h]; exact hk
/-- A store into a field of an element of a row of the call's own. -/
theorem ol_storeRowF {P : Program} {N : Fr} {B : Nat} {w0 : World} {Q : Exit → Act → World → Prop} {al : AL} {H : HL} {ops rest : List Oper} {ty : TypeId} {pos : String} {after : Array Edge} {α : Type} {a : Option Addr} {n cap : Nat}
    {ad x : Operand} {t e : TypeId} {id size o i : Nat} {v : Value} {x0 : α} (E : Enc α) (xs : List α) (y : α) (hp : ev al ad = some (.pointer ((a.map (·.add (i * E.size))).map (·.add o)))) (hH : look H id = some (.row a n cap (E.enc xs) e size)) (hz : size = E.size)
    (hx : ev al x = some v) (hv : v.cells = #[v]) (h1 : one v = true) (hT : Size P t 1) (hx0 : xs[i]? = some x0) (ho : o < E.size) (hy : E.cells y = (E.cells x0).set o v)
    (k : OL P N B w0 ops rest Q al ((id, .row a n cap (E.enc (xs.set i y)) e size) :: H)) :
    OL P N B w0 ops ({ dst := none, op := .store t ad x, type := ty, pos, after, guard := none } :: rest) Q al H := by
  subst hz
  intro a0 w hst
  refine wpList_plain rfl fun K hK => ?_
  have hok : w.ownsRow B e E.size (.slice a n cap) n (E.enc xs) := hst.sat.ok _ _ hH
  have hlen : xs.length = n := (hst.sat.rd hH rfl).len
  have hi : i < n := by have := (List.getElem?_eq_some_iff.1 hx0).1; omega
  obtain ⟨h1', h2⟩ := hok
  rcases h2 with ⟨hv', hn⟩ | ⟨g, cap', cur, hv', hb, hg, hnc, hcm, hcs, htake⟩
  · omega
  cases hv'
  have hlt := (Array.getElem?_eq_some_iff.1 hg).1
  have hmul : i * E.size + E.size ≤ n * E.size := by
    have : i + 1 ≤ n := by omega
    have := Nat.mul_le_mul_right E.size this
    rw [Nat.add_mul] at this; omega
  have hcapm : n * E.size ≤ cap * E.size := Nat.mul_le_mul_right _ hnc
  obtain ⟨cur', r1, r2, r3⟩ := run_storeCells (P := P) g e [v] (i * E.size + o) 0 cur w hg (by simp only [List.length_cons, List.length_nil]; omega) (fun u hu => by simp at hu; subst hu; exact h1)
  have hst' : (storeVar t ⟨g, i * E.size + o, none⟩ v).run P w = .ok () { w with heap := w.heap.setIfInBounds g (.cells cur' e (0, 0)) } := by
    simp only [storeVar, Sem.run_bind, run_sizeOf hT, Result.andThen_ok, hv, List.size_toArray, List.length_cons, List.length_nil, Nat.zero_add, r1, ne_eq, not_true_eq_false, if_false]
  have hpe : a0.eval ad = .pointer (some ⟨g, i * E.size + o, none⟩) := by
    rw [hst.regs.eval hp]; simp [add_none]
  unfold Oper.wp
  simp only [execOp, Instr.storeAt, Instr.sureAddr, hpe, hst.regs.eval hx, Sem.run_bind, Sem.run_pure, Result.andThen_ok, hst', Oper.upon_skip]
  refine hK _ _ (k _ _ (hst.step hst.regs (Below.setBlk hst.below hb _) ?_ (by simpa using hst.base) (Kd.one g (fun k _ hk => setBlk_other w g k _ hk) (fun o ho => .inl (by rw [hg] at ho; cases ho; rfl)))))
  refine hst.sat.turn hH (e' := .row (some ⟨g, 0, none⟩) n cap (E.enc (xs.set i y)) e E.size) ?_ (fun k _ hk => setBlk_other w g k _ (fun e => hk (by simp [Ent.own, e]))) (fun b' hb' => .inl hb')
  refine ⟨by rw [E.enc_len, List.length_set, hlen], .inr ⟨g, cap, cur', rfl, hb, by simp [hlt], hnc, hcm, by rw [r2, hcs], ?_⟩⟩
  apply List.ext_getElem?
  intro j
  rw [E.enc_set xs _ y j (by omega), List.getElem?_take]
  have h3 := r3 j
  simp only [Nat.add_zero, List.length_cons, List.length_nil, Nat.zero_add] at h3
  by_cases hj : j < n * E.size
  · rw [if_pos hj, Array.getElem?_toList, h3]
    by_cases hr : i * E.size ≤ j ∧ j < i * E.size + E.size
    · rw [if_pos hr, hy, List.getElem?_set]
      by_cases hjo : j = i * E.size + o
      · subst hjo
        rw [if_pos (by omega), Nat.sub_self, if_pos (by omega), if_pos (by rw [E.len]; exact ho)]; rfl
      · rw [if_neg (by omega), if_neg (by omega)]
        have h4 : j = i * E.size + (j - i * E.size) := by omega
        cases h5 : (E.cells x0)[j - i * E.size]? with
        | none => have := List.getElem?_eq_none_iff.1 h5; rw [E.len] at this; omega
        | some u =>
          have h6 := E.enc_get xs i x0 hx0 _ u h5
          rw [← h4, ← htake, List.getElem?_take, if_pos hj, Array.getElem?_toList] at h6
          exact h6
    · rw [if_neg hr, if_neg (by omega), ← htake, List.getElem?_take, if_pos hj, Array.getElem?_toList]
  · rw [if_neg hj, if_neg (by omega), List.getElem?_eq_none (by rw [h1']; omega)]
end Go.Proofs.Ytfbmkepogcimlaa.Hx

/-
  Garages: the pieces of a use in a slot, whole.
-/


namespace Go.Proofs.Ytfbmkepogcimlaa
open Go Go.RowKit Hx
set_option linter.unusedVariables false
set_option linter.unusedSimpArgs false
set_option maxRecDepth 8000
theorem mtN_if {u : GUse} {slot : ByteArray} {ms : List GMount} {k : Nat} {m : GMount} {xs : List GPiece} {at_ : Int} (hm : ms[k]? = some m) (h : (xs, at_) = mtN u slot ms k) (hc : endM m > at_) : addP u slot m.part (endM m) ((addP u slot noB m.fr (xs, at_)).1, (addP u slot noB m.fr (xs, at_)).2) = mtN u slot ms (k + 1) := by
  rw [mtN_succ hm, ← h, mtP, if_pos hc]
theorem mtN_no {u : GUse} {slot : ByteArray} {ms : List GMount} {k : Nat} {m : GMount} {xs : List GPiece} {at_ : Int} (hm : ms[k]? = some m) (h : (xs, at_) = mtN u slot ms k) (hc : ¬endM m > at_) : (xs, at_) = mtN u slot ms (k + 1) := by
  rw [mtN_succ hm, ← h, mtP, if_neg hc]
theorem wayK_row {l : List GPiece} {ws : List Int} {k : Nat} {p : GPiece} {n : Int} (hp : (wayK l ws k)[k]? = some p) (hn : ws[k]? = some n) : encGPiece.enc ((wayK l ws k).set k ⟨p.use, p.slot, p.part, p.sec, n⟩) = encGPiece.enc (wayK l ws (k + 1)) := by rw [wayK_succ hp hn]
theorem gear_piecesOf (u : GUse) (slot : ByteArray) (a : Option Addr) (n c : Nat) (ms : List GMount) (w : World) (hS : Rd encGMount w.heap.size w a n c ms) (hu : UseOk u) (hn : n ≤ 2000) :
    Calls Try.prog 63 #[encGUse.val u, .string slot, .slice a n c] w fun e w' => ∃ b m k, e = .returned (.slice b m k) ∧ Fresh encGPiece 36 w w' b m k (piecesR u slot ms) := by
  have hsn := hS.len
  have hu1 := hu.fr
  have hu2 := hu.sec
  have hu3 := hu.way
  refine enterQ (N := 79) (C := fun _ => True) (H := []) (B := w.heap.size) (args := [_, _, _]) Try.func63 rfl rfl rfl (Nat.le_refl _) (Sat.nil _ _) fun Q hQ => ?_
  refine wp_seq' fun K1 hK1 => ?_
  refine wp_reg ?_
  refine ol_box 3 rfl rfl rfl fun b3 => ?_
  refine ol_box 4 rfl rfl rfl fun b4 => ?_
  refine ol_r (r_assign rfl) rfl ?_
  refine ol_nil (to_k0 (fun _ _ h => h) (hK1 _ _ _ _ _ ?_))
  clear hK1
  refine wp_seq' fun K2 hK2 => ?_
  refine wp_reg ?_
  refine ol_alloc 7 z28 rfl fun b7 => ?_
  refine ol_nilrow 3007 36 5 ?_
  refine ol_nil (to_k0 (fun _ _ h => h) (hK2 _ _ _ _ _ ?_))
  clear hK2
  apply wp_seq_cutM (σ := Nat × Nat) (fun s => True) (fun s => [(8, .pointer (some ⟨s.1, 0, none⟩)), (9, .pointer (some ⟨s.2, 0, none⟩))]) [(2, _), (3, _), (4, _), (6, _), (7, _)] (fun s => [(8, .blk s.1 [(0, .int .i64 u.fr)] 3), (9, .blk s.2 [(0, .int .i64 (u.fr + u.sec))] 3)]) [(3, _), (4, _), (7, _), (3007, _)]
  ·exact (sub_cons rfl (sub_cons rfl (sub_cons rfl (sub_cons rfl (sub_cons rfl sub_nil)))))
  ·exact (subH_same rfl (subH_same rfl (subH_same rfl (subH_same rfl subH_nil))))
  ·intro K3 hK3
   refine wp_rega [(999, [(3, _), (4, _), (7, _), (3007, _)])] (by kernel_rfl) ⟨.inr (subH_same rfl (subH_same rfl (subH_same rfl (subH_same rfl subH_nil)))), trivial⟩ ?_
   refine aq_r 0 999 rfl (by kernel_rfl) (by kernel_rfl) (by kernel_rfl) (.head _) (by kernel_rfl) (by kernel_rfl) rfl (r_fa (o' := 2) rfl fl46_2 rfl) ?_
   refine aq_r 1 999 rfl (by kernel_rfl) (by kernel_rfl) (by kernel_rfl) (.head _) (by kernel_rfl) (by kernel_rfl) rfl (r_ld (id := 3) rfl rfl rfl sc3) ?_
   refine aq_r 2 999 rfl (by kernel_rfl) (by kernel_rfl) (by kernel_rfl) (.head _) (by kernel_rfl) (by kernel_rfl) rfl (r_fa (o' := 2) rfl fl46_2 rfl) ?_
   refine aq_r 3 999 rfl (by kernel_rfl) (by kernel_rfl) (by kernel_rfl) (.head _) (by kernel_rfl) (by kernel_rfl) rfl (r_ld (id := 3) rfl rfl rfl sc3) ?_
   refine aq_r 4 999 rfl (by kernel_rfl) (by kernel_rfl) (by kernel_rfl) (.head _) (by kernel_rfl) (by kernel_rfl) rfl (r_fa (o' := 3) rfl fl46_3 rfl) ?_
   refine aq_r 5 999 rfl (by kernel_rfl) (by kernel_rfl) (by kernel_rfl) (.head _) (by kernel_rfl) (by kernel_rfl) rfl (r_ld (id := 3) rfl rfl rfl sc3) ?_
   refine aq_r 6 999 rfl (by kernel_rfl) (by kernel_rfl) (by kernel_rfl) (.head _) (by kernel_rfl) (by kernel_rfl) rfl (r_add rfl rfl (by omega)) ?_
   refine aq_two (i := 7) (j := 8) (by kernel_rfl) rfl rfl (fun K4 hK4 => ?_) (fun K4 hK4 => ?_)
   ·refine ol_alloc 8 z3 rfl fun b8 => ?_
    refine ol_nil (to_k0 (fun _ _ h => h) (hK4 _ _ ⟨.inr (by repeat' first | exact subH_nil | refine subH_same rfl ?_ | (refine subH_blk rfl (by repeat' first | exact sub_nil | refine sub_cons rfl ?_) ?_)), trivial⟩ ?_))
    clear hK4
    refine aq_one (i := 8) (by kernel_rfl) rfl fun K5 hK5 => ?_
    refine ol_alloc 9 z3 rfl fun b9 => ?_
    refine ol_nil (to_k0 (fun _ _ h => h) (hK5 _ _ ⟨.inr (by repeat' first | exact subH_nil | refine subH_same rfl ?_ | (refine subH_blk rfl (by repeat' first | exact sub_nil | refine sub_cons rfl ?_) ?_)), trivial⟩ ?_))
    clear hK5
    refine aq_one (i := 9) (by kernel_rfl) rfl fun K6 hK6 => ?_
    refine ol_store (id := 8) rfl rfl rfl rfl sz3 rfl rfl (by first | decide | exact Nat.zero_lt_succ _ | simp) ?_
    refine ol_nil (to_k0 (fun _ _ h => h) (hK6 _ _ ⟨.inr (by repeat' first | exact subH_nil | refine subH_same rfl ?_ | (refine subH_blk rfl (by repeat' first | exact sub_nil | refine sub_cons rfl ?_) ?_)), trivial⟩ ?_))
    clear hK6
    refine aq_one (i := 10) (by kernel_rfl) rfl fun K7 hK7 => ?_
    refine ol_store (id := 9) rfl rfl rfl rfl sz3 rfl rfl (by first | decide | exact Nat.zero_lt_succ _ | simp) ?_
    refine ol_nil (to_k0 (fun _ _ h => h) (hK7 _ _ ⟨.inr (by repeat' first | exact subH_nil | refine subH_same rfl ?_ | (refine subH_blk rfl (by repeat' first | exact sub_nil | refine sub_cons rfl ?_) ?_)), trivial⟩ ?_))
    clear hK7
    refine aq_done (by kernel_rfl) ?_
    refine (to_k0 (fun _ _ h => h) (hK3 ((b8, b9)) _ _ ?_ (sub_cons rfl (sub_cons rfl sub_nil)) (sub_cons rfl (sub_cons rfl (sub_cons rfl (sub_cons rfl (sub_cons rfl sub_nil))))) (subH_blk rfl (by repeat' first | exact sub_nil | refine sub_cons rfl ?_) (subH_blk rfl (by repeat' first | exact sub_nil | refine sub_cons rfl ?_) subH_nil)) (subH_same rfl (subH_same rfl (subH_same rfl (subH_same rfl subH_nil))))))
    try dsimp only
    all_goals trivial
   ·refine ol_alloc 9 z3 rfl fun b9 => ?_
    refine ol_nil (to_k0 (fun _ _ h => h) (hK4 _ _ ⟨.inr (by repeat' first | exact subH_nil | refine subH_same rfl ?_ | (refine subH_blk rfl (by repeat' first | exact sub_nil | refine sub_cons rfl ?_) ?_)), trivial⟩ ?_))
    clear hK4
    refine aq_one (i := 7) (by kernel_rfl) rfl fun K5 hK5 => ?_
    refine ol_alloc 8 z3 rfl fun b8 => ?_
    refine ol_nil (to_k0 (fun _ _ h => h) (hK5 _ _ ⟨.inr (by repeat' first | exact subH_nil | refine subH_same rfl ?_ | (refine subH_blk rfl (by repeat' first | exact sub_nil | refine sub_cons rfl ?_) ?_)), trivial⟩ ?_))
    clear hK5
    refine aq_one (i := 9) (by kernel_rfl) rfl fun K6 hK6 => ?_
    refine ol_store (id := 8) rfl rfl rfl rfl sz3 rfl rfl (by first | decide | exact Nat.zero_lt_succ _ | simp) ?_
    refine ol_nil (to_k0 (fun _ _ h => h) (hK6 _ _ ⟨.inr (by repeat' first | exact subH_nil | refine subH_same rfl ?_ | (refine subH_blk rfl (by repeat' first | exact sub_nil | refine sub_cons rfl ?_) ?_)), trivial⟩ ?_))
    clear hK6
    refine aq_one (i := 10) (by kernel_rfl) rfl fun K7 hK7 => ?_
    refine ol_store (id := 9) rfl rfl rfl rfl sz3 rfl rfl (by first | decide | exact Nat.zero_lt_succ _ | simp) ?_
    refine ol_nil (to_k0 (fun _ _ h => h) (hK7 _ _ ⟨.inr (by repeat' first | exact subH_nil | refine subH_same rfl ?_ | (refine subH_blk rfl (by repeat' first | exact sub_nil | refine sub_cons rfl ?_) ?_)), trivial⟩ ?_))
    clear hK7
    refine aq_done (by kernel_rfl) ?_
    refine (to_k0 (fun _ _ h => h) (hK3 ((b8, b9)) _ _ ?_ (sub_cons rfl (sub_cons rfl sub_nil)) (sub_cons rfl (sub_cons rfl (sub_cons rfl (sub_cons rfl (sub_cons rfl sub_nil))))) (subH_blk rfl (by repeat' first | exact sub_nil | refine sub_cons rfl ?_) (subH_blk rfl (by repeat' first | exact sub_nil | refine sub_cons rfl ?_) subH_nil)) (subH_same rfl (subH_same rfl (subH_same rfl (subH_same rfl subH_nil))))))
    try dsimp only
    all_goals trivial
  ·rintro ⟨b8, b9⟩ _
   refine wp_seq' fun K8 hK8 => ?_
   refine wp_reg ?_
   refine ol_r (r_func rfl) rfl ?_
   refine ol_r (r_assign rfl) rfl ?_
   refine ol_nil (to_k0 (fun _ _ h => h) (hK8 _ _ _ _ _ ?_))
   clear hK8
   refine wp_seq' fun K9 hK9 => ?_
   refine wp_seq' fun K10 hK10 => ?_
   refine wp_reg ?_
   refine ol_r (r_move rfl) rfl ?_
   refine ol_r (r_len rfl sl24) rfl ?_
   refine ol_r (r_move rfl) rfl ?_
   refine ol_nil (to_k0 (fun _ _ h => h) (hK10 _ _ _ _ _ ?_))
   clear hK10
   refine wp_block' ?_
   apply wp_loopM (σ := Nat × List GPiece × Int × Option Addr × Nat × Nat) (fun s => s.1 ≤ n ∧ (s.2.1, s.2.2.1) = mtN u slot ms s.1 ∧ s.2.2.2.2.1 = s.2.1.length) (fun s => [(28, .int .i64 s.1)]) [(3, _), (6, _), (7, _), (8, _), (9, _), (10, _), (26, _), (27, _)] (fun s => [(9, .blk b9 [(0, .int .i64 (u.fr + u.sec))] 3), (3, .blk b3 [(0, .string u.name), (1, .string u.rig), (2, .int .i64 u.fr), (3, .int .i64 u.sec), (4, .int .i64 u.way)] 46), (4, .blk b4 [(0, .string slot)] 9), (8, .blk b8 [(0, .int .i64 s.2.2.1)] 3), (7, .blk b7 [(0, .slice s.2.2.2.1 s.2.2.2.2.1 s.2.2.2.2.2)] 28), (3007, .row s.2.2.2.1 s.2.2.2.2.1 s.2.2.2.2.2 (encGPiece.enc s.2.1) 36 5)]) [] (fun s => n - s.1) ((0, [], u.fr, none, 0, 0))
   ·try dsimp only
    exact ⟨Nat.zero_le _, rfl, rfl⟩
   ·exact (sub_cons rfl sub_nil)
   ·exact (sub_cons rfl (sub_cons rfl (sub_cons rfl (sub_cons rfl (sub_cons rfl (sub_cons rfl (sub_cons rfl (sub_cons rfl sub_nil))))))))
   ·exact (subH_blk rfl (sub_cons rfl sub_nil) (subH_blk rfl (sub_cons rfl (sub_cons rfl (sub_cons rfl (sub_cons rfl (sub_cons rfl sub_nil))))) (subH_blk rfl (sub_cons rfl sub_nil) (subH_blk rfl (sub_cons rfl sub_nil) (subH_blk rfl (sub_cons rfl sub_nil) (subH_row rfl (by first | (dsimp only; rfl; done) | (rfl; done) | (dsimp only; done)) subH_nil))))))
   ·exact subH_nil
   ·rintro ⟨k, xs, at0, oa, m, oc⟩ ⟨hk, hM, hm⟩
    dsimp only at hk hM hm ⊢
    have hI := mtN_is (slot := slot) (ms := ms) (show 0 ≤ u.sec by omega) k
    rw [← hM] at hI
    have hab := hI.bd
    have hxl := hI.len
    dsimp only at hab hxl
    intro K11 hK11
    refine wp_seq' fun K12 hK12 => ?_
    refine wp_reg ?_
    refine ol_r (r_lss rfl rfl) rfl ?_
    refine ol_nil (to_k0 (fun _ _ h => h) (hK12 _ _ _ _ _ ?_))
    clear hK12
    refine wp_seq' fun K13 hK13 => ?_
    first | refine wp_condD rfl (fun hc29 => ?_) (fun hc29 => ?_) | refine wp_condN rfl (fun hc29 => ?_) (fun hc29 => ?_) | refine wp_condNB rfl (fun hc29 => ?_) (fun hc29 => ?_) | refine wp_cond' rfl (fun hc29 => ?_) (fun hc29 => ?_)
    ·refine wp_skip' (to_k0 (fun _ _ h => h) (hK13 _ _ _ _ _ ?_))
     clear hK13
     refine wp_seq' fun K14 hK14 => ?_
     refine wp_block' ?_
     refine wp_seq' fun K15 hK15 => ?_
     refine wp_reg ?_
     refine ol_ixr hS rfl rfl sl24 (by omega) rfl fun x30 hx30 => ?_
     try simp only [Int.toNat_natCast] at hx30
     refine ol_r (r_ldw rfl (fun w1 hb1 hs1 hB1 => Rd.loads hS ty155 hx30 hb1)) rfl ?_
     refine ol_alloc 12 z155 rfl fun b12 => ?_
     refine ol_store (id := 12) rfl rfl rfl rfl sz155 rfl rfl (by first | decide | exact Nat.zero_lt_succ _ | simp) ?_
     refine ol_nil (to_k0 (fun _ _ h => h) (hK15 _ _ _ _ _ ?_))
     clear hK15
     refine wp_seq' fun K16 hK16 => ?_
     refine wp_regq (by kernel_rfl) (by kernel_rfl) ?_
     refine ql_r (r_lda (id := 12) (n := 4) rfl rfl rfl ag155) rfl ?_
     refine ql_call rfl rfl cb86 rfl (fun w1 hb1 hs1 hB1 => gear_end x30 _) ?_
     refine ql_r (r_ld (id := 8) rfl rfl rfl sc3) rfl ?_
     refine ql_r (r_gtr rfl rfl) rfl ?_
     refine ql_nil (to_k0 (fun _ _ h => h) (hK16 _ _ _ _ _ ?_))
     clear hK16
     first | refine wp_condD rfl (fun hc35 => ?_) (fun hc35 => ?_) | refine wp_condN rfl (fun hc35 => ?_) (fun hc35 => ?_) | refine wp_condNB rfl (fun hc35 => ?_) (fun hc35 => ?_) | refine wp_cond' rfl (fun hc35 => ?_) (fun hc35 => ?_)
     ·refine wp_seq' fun K17 hK17 => ?_
      refine wp_reg ?_
      refine ol_r (r_move rfl) rfl ?_
      refine ol_r (r_fa (o' := 2) rfl fl155_2 rfl) rfl ?_
      refine ol_r (r_ld (id := 12) rfl rfl rfl sc3) rfl ?_
      refine ol_call rfl rfl cb89 rfl (fun w1 hb1 hs1 hB1 => ?_)
      refine Calls.mono (pieces_add u slot noB _ _ w.heap.size b9 b8 b7 b3 b4 _ _ _ xs _ _ hu hab hm (by omega) hB1 (hs1.kle [(9, 301), (8, 302), (7, 303), (3, 304), (4, 305), (3007, 306), (12, 307)] (kle_cons rfl ⟨rfl, rfl, Sub.out (by repeat' first | exact sub_nil | refine sub_cons rfl ?_)⟩ (kle_cons rfl ⟨rfl, rfl, Sub.out (by repeat' first | exact sub_nil | refine sub_cons rfl ?_)⟩ (kle_cons rfl ⟨rfl, rfl, Sub.out (by repeat' first | exact sub_nil | refine sub_cons rfl ?_)⟩ (kle_cons rfl ⟨rfl, rfl, Sub.out (by repeat' first | exact sub_nil | refine sub_cons rfl ?_)⟩ (kle_cons rfl ⟨rfl, rfl, Sub.out (by repeat' first | exact sub_nil | refine sub_cons rfl ?_)⟩ (kle_cons rfl (row_le rfl) (kle_cons rfl (Ent.le_refl _) kle_nil))))))) (by decide))) ?_
      rintro e w2 ⟨a', n', c', rfl, hb2, hs2, hB2, hk2, hn2⟩
      refine After.sat rfl hb1 hb2 (hs2.kle [(301, 9), (302, 8), (303, 7), (304, 3), (305, 4), (306, 3007), (307, 12)] (kle_cons rfl (Ent.le_refl _) (kle_cons rfl (Ent.le_refl _) (kle_cons rfl (Ent.le_refl _) (kle_cons rfl (Ent.le_refl _) (kle_cons rfl (Ent.le_refl _) (kle_cons rfl (Ent.le_refl _) (kle_cons rfl (Ent.le_refl _) kle_nil))))))) (by decide)) hB2 (hk2.imp fun _ h => h.elim) ?_
      clear hk2 hs2 hb2 hB2 hB1 hs1 hb1 w2 w1
      refine ol_nil (to_k0 (fun _ _ h => h) (hK17 _ _ _ _ _ ?_))
      clear hK17
      refine wp_rega [(999, []), (5, [(3, _)]), (5, [(4, _)]), (5, [(7, _)]), (5, [(8, _)]), (5, [(9, _)]), (5, [(12, _)]), (5, [(3007, _)])] (by kernel_rfl) ⟨.inr subH_nil, ⟨.inr (subH_same rfl subH_nil), ⟨.inr (subH_same rfl subH_nil), ⟨.inr (subH_same rfl subH_nil), ⟨.inr (subH_same rfl subH_nil), ⟨.inr (subH_same rfl subH_nil), ⟨.inr (subH_same rfl subH_nil), ⟨.inr (subH_same rfl subH_nil), trivial⟩⟩⟩⟩⟩⟩⟩⟩ ?_
      refine aq_r 0 999 rfl (by kernel_rfl) (by kernel_rfl) (by kernel_rfl) (.head _) (by kernel_rfl) (by kernel_rfl) rfl (r_move rfl) ?_
      refine aq_r 1 999 rfl (by kernel_rfl) (by kernel_rfl) (by kernel_rfl) (.head _) (by kernel_rfl) (by kernel_rfl) rfl (r_fa (o' := 1) rfl fl155_1 rfl) ?_
      refine aq_r 2 5 rfl (by kernel_rfl) (by kernel_rfl) (by kernel_rfl) (.tail _ (.tail _ (.tail _ (.tail _ (.tail _ (.tail _ (.head _))))))) (by kernel_rfl) (by kernel_rfl) rfl (r_ld (id := 12) rfl rfl rfl sc9) ?_
      refine aq_one (i := 3) (by kernel_rfl) rfl fun K18 hK18 => ?_
      refine ol_r (r_lda (id := 12) (n := 4) rfl rfl rfl ag155) rfl ?_
      refine ol_nil (to_k0 (fun _ _ h => h) (hK18 _ _ ⟨.inr (by repeat' first | exact subH_nil | refine subH_same rfl ?_ | (refine subH_blk rfl (by repeat' first | exact sub_nil | refine sub_cons rfl ?_) ?_)), ⟨.inr (by repeat' first | exact subH_nil | refine subH_same rfl ?_ | (refine subH_blk rfl (by repeat' first | exact sub_nil | refine sub_cons rfl ?_) ?_)), ⟨.inr (by repeat' first | exact subH_nil | refine subH_same rfl ?_ | (refine subH_blk rfl (by repeat' first | exact sub_nil | refine sub_cons rfl ?_) ?_)), ⟨.inr (by repeat' first | exact subH_nil | refine subH_same rfl ?_ | (refine subH_blk rfl (by repeat' first | exact sub_nil | refine sub_cons rfl ?_) ?_)), ⟨.inr (by repeat' first | exact subH_nil | refine subH_same rfl ?_ | (refine subH_blk rfl (by repeat' first | exact sub_nil | refine sub_cons rfl ?_) ?_)), ⟨.inr (by repeat' first | exact subH_nil | refine subH_same rfl ?_ | (refine subH_blk rfl (by repeat' first | exact sub_nil | refine sub_cons rfl ?_) ?_)), ⟨.inr (by repeat' first | exact subH_nil | refine subH_same rfl ?_ | (refine subH_blk rfl (by repeat' first | exact sub_nil | refine sub_cons rfl ?_) ?_)), ⟨.inr (by repeat' first | exact subH_nil | refine subH_same rfl ?_ | (refine subH_blk rfl (by repeat' first | exact sub_nil | refine sub_cons rfl ?_) ?_)), trivial⟩⟩⟩⟩⟩⟩⟩⟩ ?_))
      clear hK18
      refine aq_one (i := 4) (by kernel_rfl) rfl fun K19 hK19 => ?_
      refine ol_call rfl rfl cb86 rfl (fun w1 hb1 hs1 hB1 => Calls.mono (gear_end x30 _) ?_)
      rintro e w2 ⟨rfl, hb2⟩
      refine After.below rfl hb1 hs1 hB1 hb2 ?_
      clear hb2 hB1 hs1 hb1 w2 w1
      refine ol_nil (to_k0 (fun _ _ h => h) (hK19 _ _ ⟨.inr (by repeat' first | exact subH_nil | refine subH_same rfl ?_ | (refine subH_blk rfl (by repeat' first | exact sub_nil | refine sub_cons rfl ?_) ?_)), ⟨.inr (by repeat' first | exact subH_nil | refine subH_same rfl ?_ | (refine subH_blk rfl (by repeat' first | exact sub_nil | refine sub_cons rfl ?_) ?_)), ⟨.inr (by repeat' first | exact subH_nil | refine subH_same rfl ?_ | (refine subH_blk rfl (by repeat' first | exact sub_nil | refine sub_cons rfl ?_) ?_)), ⟨.inr (by repeat' first | exact subH_nil | refine subH_same rfl ?_ | (refine subH_blk rfl (by repeat' first | exact sub_nil | refine sub_cons rfl ?_) ?_)), ⟨.inr (by repeat' first | exact subH_nil | refine subH_same rfl ?_ | (refine subH_blk rfl (by repeat' first | exact sub_nil | refine sub_cons rfl ?_) ?_)), ⟨.inr (by repeat' first | exact subH_nil | refine subH_same rfl ?_ | (refine subH_blk rfl (by repeat' first | exact sub_nil | refine sub_cons rfl ?_) ?_)), ⟨.inr (by repeat' first | exact subH_nil | refine subH_same rfl ?_ | (refine subH_blk rfl (by repeat' first | exact sub_nil | refine sub_cons rfl ?_) ?_)), ⟨.inr (by repeat' first | exact subH_nil | refine subH_same rfl ?_ | (refine subH_blk rfl (by repeat' first | exact sub_nil | refine sub_cons rfl ?_) ?_)), trivial⟩⟩⟩⟩⟩⟩⟩⟩ ?_))
      clear hK19
      refine aq_one (i := 5) (by kernel_rfl) rfl fun K20 hK20 => ?_
      refine ol_call rfl rfl cb89 rfl (fun w1 hb1 hs1 hB1 => ?_)
      refine Calls.mono (pieces_add u slot x30.part _ _ w.heap.size b9 b8 b7 b3 b4 _ _ _ (addP u slot noB x30.fr (xs, at0)).1 _ _ hu ((hI.add x30.fr (part := noB)).bd) hn2 (by rw [hn2]; have := (hI.add x30.fr (part := noB)).len; omega) hB1 (hs1.kle [(9, 301), (8, 302), (7, 303), (3, 304), (4, 305), (3007, 306), (12, 307)] (kle_cons rfl ⟨rfl, rfl, Sub.out (by repeat' first | exact sub_nil | refine sub_cons rfl ?_)⟩ (kle_cons rfl ⟨rfl, rfl, Sub.out (by repeat' first | exact sub_nil | refine sub_cons rfl ?_)⟩ (kle_cons rfl ⟨rfl, rfl, Sub.out (by repeat' first | exact sub_nil | refine sub_cons rfl ?_)⟩ (kle_cons rfl ⟨rfl, rfl, Sub.out (by repeat' first | exact sub_nil | refine sub_cons rfl ?_)⟩ (kle_cons rfl ⟨rfl, rfl, Sub.out (by repeat' first | exact sub_nil | refine sub_cons rfl ?_)⟩ (kle_cons rfl (row_le rfl) (kle_cons rfl (Ent.le_refl _) kle_nil))))))) (by decide))) ?_
      rintro e w2 ⟨a', n', c', rfl, hb2, hs2, hB2, hk2, hn2⟩
      refine After.sat rfl hb1 hb2 (hs2.kle [(301, 9), (302, 8), (303, 7), (304, 3), (305, 4), (306, 3007), (307, 12)] (kle_cons rfl (Ent.le_refl _) (kle_cons rfl (Ent.le_refl _) (kle_cons rfl (Ent.le_refl _) (kle_cons rfl (Ent.le_refl _) (kle_cons rfl (Ent.le_refl _) (kle_cons rfl (Ent.le_refl _) (kle_cons rfl (Ent.le_refl _) kle_nil))))))) (by decide)) hB2 (hk2.imp fun _ h => h.elim) ?_
      clear hk2 hs2 hb2 hB2 hB1 hs1 hb1 w2 w1
      refine ol_nil (to_k0 (fun _ _ h => h) (hK20 _ _ ⟨.inr (by repeat' first | exact subH_nil | refine subH_same rfl ?_ | (refine subH_blk rfl (by repeat' first | exact sub_nil | refine sub_cons rfl ?_) ?_)), ⟨.inl (by kernel_rfl), ⟨.inl (by kernel_rfl), ⟨.inl (by kernel_rfl), ⟨.inl (by kernel_rfl), ⟨.inl (by kernel_rfl), ⟨.inl (by kernel_rfl), ⟨.inl (by kernel_rfl), trivial⟩⟩⟩⟩⟩⟩⟩⟩ ?_))
      clear hK20
      refine aq_done (by kernel_rfl) ?_
      refine (to_k0 (fun _ _ h => h) (hK14 _ _ _ _ _ ?_))
      clear hK14
      refine wp_reg ?_
      refine ol_r (r_add rfl rfl (by omega)) rfl ?_
      refine ol_r (r_move rfl) rfl ?_
      refine ol_nil (to_k0 (fun _ _ h => h) (hK11 ((k + 1, (addP u slot x30.part (endM x30) ((addP u slot noB x30.fr (xs, at0)).1, (addP u slot noB x30.fr (xs, at0)).2)).1, _, _, _, _)) _ _ ?_ ?_ (sub_cons rfl sub_nil) (sub_cons rfl (sub_cons rfl (sub_cons rfl (sub_cons rfl (sub_cons rfl (sub_cons rfl (sub_cons rfl (sub_cons rfl sub_nil)))))))) (by exact (subH_blk rfl (sub_cons rfl sub_nil) (subH_blk rfl (sub_cons rfl (sub_cons rfl (sub_cons rfl (sub_cons rfl (sub_cons rfl sub_nil))))) (subH_blk rfl (sub_cons rfl sub_nil) (subH_blk rfl (sub_cons rfl sub_nil) (subH_blk rfl (sub_cons rfl sub_nil) (subH_row rfl (by first | (dsimp only; rfl; done) | (rfl; done) | (dsimp only; done)) subH_nil))))))) subH_nil))
      ·try dsimp only
       exact ⟨by omega, mtN_if hx30 hM hc35, by omega⟩
      ·try dsimp only
       omega
     ·refine wp_skip' (to_k0 (fun _ _ h => h) (hK14 _ _ _ _ _ ?_))
      clear hK14
      refine wp_reg ?_
      refine ol_r (r_add rfl rfl (by omega)) rfl ?_
      refine ol_r (r_move rfl) rfl ?_
      refine ol_nil (to_k0 (fun _ _ h => h) (hK11 ((k + 1, xs, _, _, _, _)) _ _ ?_ ?_ (sub_cons rfl sub_nil) (sub_cons rfl (sub_cons rfl (sub_cons rfl (sub_cons rfl (sub_cons rfl (sub_cons rfl (sub_cons rfl (sub_cons rfl sub_nil)))))))) (by exact (subH_blk rfl (sub_cons rfl sub_nil) (subH_blk rfl (sub_cons rfl (sub_cons rfl (sub_cons rfl (sub_cons rfl (sub_cons rfl sub_nil))))) (subH_blk rfl (sub_cons rfl sub_nil) (subH_blk rfl (sub_cons rfl sub_nil) (subH_blk rfl (sub_cons rfl sub_nil) (subH_row rfl (by first | (dsimp only; rfl; done) | (rfl; done) | (dsimp only; done)) subH_nil))))))) subH_nil))
      ·try dsimp only
       exact ⟨by omega, mtN_no hx30 hM hc35, by omega⟩
      ·try dsimp only
       omega
    ·refine wp_exit' (to_k0 (fun _ _ h => h) (hK9 _ _ _ _ _ ?_))
     clear hK9
     refine wp_seq' fun K21 hK21 => ?_
     refine wp_reg ?_
     have hkn : k = ms.length := by omega
     have hy3 : addP u slot noB (u.fr + u.sec) (xs, at0) = secP u slot ms := by rw [hM, hkn]; rfl
     obtain ⟨ys, hys⟩ : ∃ ys, ys = (secP u slot ms).1 := ⟨_, rfl⟩
     have hw0 : ∀ x ∈ ys.map (·.sec), 0 ≤ x := by rw [hys]; exact secs_pos hu
     have hsum : (ys.map (·.sec)).sum = u.sec := by rw [hys]; exact secP_sum (by omega)
     have hyl := (secP_is (u := u) (slot := slot) (ms := ms) (by omega)).len
     rw [← hys] at hyl
     refine ol_r (r_move rfl) rfl ?_
     refine ol_r (r_ld (id := 9) rfl rfl rfl sc3) rfl ?_
     refine ol_call rfl rfl cb89 rfl (fun w1 hb1 hs1 hB1 => ?_)
     refine Calls.mono (pieces_add u slot noB _ _ w.heap.size b9 b8 b7 b3 b4 _ _ _ xs _ _ hu hab hm (by omega) hB1 ((hs1.forget 4012).kle [(9, 301), (8, 302), (7, 303), (3, 304), (4, 305), (3007, 306), (4012, 307)] (kle_cons rfl ⟨rfl, rfl, Sub.out (by repeat' first | exact sub_nil | refine sub_cons rfl ?_)⟩ (kle_cons rfl ⟨rfl, rfl, Sub.out (by repeat' first | exact sub_nil | refine sub_cons rfl ?_)⟩ (kle_cons rfl ⟨rfl, rfl, Sub.out (by repeat' first | exact sub_nil | refine sub_cons rfl ?_)⟩ (kle_cons rfl ⟨rfl, rfl, Sub.out (by repeat' first | exact sub_nil | refine sub_cons rfl ?_)⟩ (kle_cons rfl ⟨rfl, rfl, Sub.out (by repeat' first | exact sub_nil | refine sub_cons rfl ?_)⟩ (kle_cons rfl (row_le rfl) (kle_cons rfl (Ent.le_refl _) kle_nil))))))) (by decide))) ?_
     rintro e w2 ⟨a', n', c', rfl, hb2, hs2, hB2, hk2, hn2⟩
     rw [hy3, ← hys] at hs2 hn2
     subst hn2
     refine After.sat rfl hb1 hb2 (hs2.kle [(301, 9), (302, 8), (303, 7), (304, 3), (305, 4), (306, 3007)] (kle_cons rfl (Ent.le_refl _) (kle_cons rfl (Ent.le_refl _) (kle_cons rfl (Ent.le_refl _) (kle_cons rfl (Ent.le_refl _) (kle_cons rfl (Ent.le_refl _) (kle_cons rfl (Ent.le_refl _) kle_nil)))))) (by decide)) hB2 (hk2.imp fun _ h => h.elim) ?_
     clear hk2 hs2 hb2 hB2 hB1 hs1 hb1 w2 w1
     refine ol_nil (to_k0 (fun _ _ h => h) (hK21 _ _ _ _ _ ?_))
     clear hK21
     refine wp_seq' fun K22 hK22 => ?_
     refine wp_reg ?_
     refine ol_nilrow 13 3 1 ?_
     refine ol_r (r_assign rfl) rfl ?_
     refine ol_nil (to_k0 (fun _ _ h => h) (hK22 _ _ _ _ _ ?_))
     clear hK22
     refine wp_seq' fun K23 hK23 => ?_
     refine wp_seq' fun K24 hK24 => ?_
     refine wp_reg ?_
     refine ol_r (r_ld (id := 7) rfl rfl rfl sc28) rfl ?_
     refine ol_r (r_len rfl sl28) rfl ?_
     refine ol_r (r_move rfl) rfl ?_
     refine ol_nil (to_k0 (fun _ _ h => h) (hK24 _ _ _ _ _ ?_))
     clear hK24
     refine wp_block' ?_
     apply wp_loopM (σ := Nat × Option Addr × Nat) (fun s => s.1 ≤ ys.length) (fun s => [(52, .int .i64 s.1), (13, .slice s.2.1 s.1 s.2.2)]) [(3, _), (6, _), (7, _), (50, _), (51, _)] (fun s => [(13, .row s.2.1 s.1 s.2.2 (encI.enc ((ys.map (·.sec)).take s.1)) 3 1)]) [(3, _), (4, _), (7, _), (8, _), (9, _), (3007, _)] (fun s => ys.length - s.1) ((0, none, 0))
     ·try dsimp only
      omega
     ·exact (sub_cons rfl (sub_cons rfl sub_nil))
     ·exact (sub_cons rfl (sub_cons rfl (sub_cons rfl (sub_cons rfl (sub_cons rfl sub_nil)))))
     ·exact (subH_row rfl (by first | (dsimp only; rfl; done) | (rfl; done) | (dsimp only; done)) subH_nil)
     ·exact (subH_same rfl (subH_same rfl (subH_same rfl (subH_same rfl (subH_same rfl (subH_same rfl subH_nil))))))
     ·rintro ⟨q, sa, sc⟩ hq
      dsimp only at hq ⊢
      intro K25 hK25
      refine wp_seq' fun K26 hK26 => ?_
      refine wp_reg ?_
      refine ol_r (r_lss rfl rfl) rfl ?_
      refine ol_nil (to_k0 (fun _ _ h => h) (hK26 _ _ _ _ _ ?_))
      clear hK26
      refine wp_seq' fun K27 hK27 => ?_
      first | refine wp_condD rfl (fun hc53 => ?_) (fun hc53 => ?_) | refine wp_condN rfl (fun hc53 => ?_) (fun hc53 => ?_) | refine wp_condNB rfl (fun hc53 => ?_) (fun hc53 => ?_) | refine wp_cond' rfl (fun hc53 => ?_) (fun hc53 => ?_)
      ·refine wp_skip' (to_k0 (fun _ _ h => h) (hK27 _ _ _ _ _ ?_))
       clear hK27
       refine wp_seq' fun K28 hK28 => ?_
       refine wp_block' ?_
       refine wp_seq' fun K29 hK29 => ?_
       refine wp_reg ?_
       refine ol_ixo (id := 3007) encGPiece _ rfl rfl rfl rfl sl28 (by omega) rfl fun x54 hx54 => ?_
       try simp only [Int.toNat_natCast] at hx54
       try simp only [Int.toNat_natCast] at hx54
       refine ol_r (r_ldw rfl (fun w1 hb1 hs1 hB1 => ld_own (id := 3007) hs1 rfl rfl ty36 hx54)) rfl ?_
       refine ol_alloc 15 z36 rfl fun b15 => ?_
       refine ol_store (id := 15) rfl rfl rfl rfl sz36 rfl rfl (by first | decide | exact Nat.zero_lt_succ _ | simp) ?_
       refine ol_nil (to_k0 (fun _ _ h => h) (hK29 _ _ _ _ _ ?_))
       clear hK29
       refine wp_reg ?_
       refine ol_r (r_move rfl) rfl ?_
       refine ol_r (r_fa (o' := 3) rfl fl36_3 rfl) rfl ?_
       refine ol_r (r_ld (id := 15) rfl rfl rfl sc3) rfl ?_
       refine ol_bs1 59 rfl rfl rw61 rfl rfl rfl fun a59 => ?_
       refine ol_append1 (id := 13) (id2 := 59) rfl rfl rfl rfl rfl rw61 (by omega) rfl fun a60 c60 => ?_
       refine ol_r (r_assign rfl) rfl ?_
       refine ol_nil (to_k0 (fun _ _ h => h) (hK28 _ _ _ _ _ ?_))
       clear hK28
       refine wp_reg ?_
       refine ol_r (r_add rfl rfl (by omega)) rfl ?_
       refine ol_r (r_move rfl) rfl ?_
       refine ol_nil (to_k0 (fun _ _ h => h) (hK25 ((q + 1, _, _)) _ _ ?_ ?_ (sub_cons rfl (sub_cons rfl sub_nil)) (sub_cons rfl (sub_cons rfl (sub_cons rfl (sub_cons rfl (sub_cons rfl sub_nil))))) (by exact (subH_row rfl (by first | (dsimp only; rw [take_succ_get (show (ys.map (·.sec))[q]? = some x54.sec by rw [List.getElem?_map, hx54]; rfl), encI_snoc]; done) | (rw [take_succ_get (show (ys.map (·.sec))[q]? = some x54.sec by rw [List.getElem?_map, hx54]; rfl), encI_snoc]; done) | (dsimp only; done)) subH_nil)) (subH_same rfl (subH_same rfl (subH_same rfl (subH_same rfl (subH_same rfl (subH_same rfl subH_nil))))))))
       ·try dsimp only
        omega
       ·try dsimp only
        omega
      ·refine wp_exit' (to_k0 (fun _ _ h => h) (hK23 _ _ _ _ _ ?_))
       clear hK23
       refine wp_seq' fun K30 hK30 => ?_
       refine wp_seq' fun K31 hK31 => ?_
       refine wp_reg ?_
       rw [List.take_of_length_le (by rw [List.length_map]; omega)]
       refine ol_r (r_fa (o' := 4) rfl fl46_4 rfl) rfl ?_
       refine ol_r (r_ld (id := 3) rfl rfl rfl sc3) rfl ?_
       refine ol_r (r_move rfl) rfl ?_
       refine ol_call rfl rfl cb90 rfl (fun w1 hb1 hs1 hB1 => Calls.mono (quant_Parts u.way _ _ _ (ys.map (·.sec)) _ (Sat.rd hs1 (E := encI) (id := 13) rfl rfl) (by omega) hw0 (by omega) (by omega)) ?_)
       rintro e w2 ⟨a65, n65, c65, rfl, hf65⟩
       refine After.fresh (id := 65) rfl hb1 hs1 hB1 hf65 ?_
       have hl65 := hf65.len; clear hf65 hB1 hs1 hb1 w2 w1
       obtain ⟨ws, hws⟩ : ∃ ws, ws = partsR u.way (ys.map (·.sec)) := ⟨_, rfl⟩
       have hwl : ws.length = ys.length := by rw [hws, partsR_len, List.length_map]
       rw [← hws] at hl65 ⊢
       refine ol_r (r_len rfl sl61) rfl ?_
       refine ol_r (r_move rfl) rfl ?_
       refine ol_nil (to_k0 (fun _ _ h => h) (hK31 _ _ _ _ _ ?_))
       clear hK31
       refine wp_block' ?_
       apply wp_loopM (σ := Nat) (fun s => s ≤ ys.length) (fun s => [(67, .int .i64 s)]) [(6, _), (7, _), (65, _), (66, _)] (fun s => [(3007, .row a' ys.length c' (encGPiece.enc (wayK ys ws s)) 36 5)]) [(3, _), (4, _), (7, _), (8, _), (9, _), (13, _), (65, _)] (fun s => ys.length - s) (0)
       ·try dsimp only
        omega
       ·exact (sub_cons rfl sub_nil)
       ·exact (sub_cons rfl (sub_cons rfl (sub_cons rfl (sub_cons rfl sub_nil))))
       ·exact (subH_row rfl (by first | (dsimp only; rw [wayK_zero]; done) | (rw [wayK_zero]; done) | (dsimp only; done)) subH_nil)
       ·exact (subH_same rfl (subH_same rfl (subH_same rfl (subH_same rfl (subH_same rfl (subH_same rfl (subH_same rfl subH_nil)))))))
       ·rintro r hr
        have hwk := wayK_len ys ws r
        intro K32 hK32
        refine wp_seq' fun K33 hK33 => ?_
        refine wp_reg ?_
        refine ol_r (r_lss rfl rfl) rfl ?_
        refine ol_nil (to_k0 (fun _ _ h => h) (hK33 _ _ _ _ _ ?_))
        clear hK33
        refine wp_seq' fun K34 hK34 => ?_
        first | refine wp_condD rfl (fun hc68 => ?_) (fun hc68 => ?_) | refine wp_condN rfl (fun hc68 => ?_) (fun hc68 => ?_) | refine wp_condNB rfl (fun hc68 => ?_) (fun hc68 => ?_) | refine wp_cond' rfl (fun hc68 => ?_) (fun hc68 => ?_)
        ·refine wp_skip' (to_k0 (fun _ _ h => h) (hK34 _ _ _ _ _ ?_))
         clear hK34
         refine wp_seq' fun K35 hK35 => ?_
         refine wp_block' ?_
         refine wp_seq' fun K36 hK36 => ?_
         refine wp_reg ?_
         refine ol_r (r_move rfl) rfl ?_
         refine ol_ixo (id := 65) encI _ rfl rfl rfl rfl sl61 (by omega) rfl fun x70 hx70 => ?_
         try simp only [Int.toNat_natCast] at hx70
         try simp only [Int.toNat_natCast] at hx70
         refine ol_r (r_ldw rfl (fun w1 hb1 hs1 hB1 => show Loads _ _ _ _ (.int .i64 x70) from ld_own (id := 65) hs1 rfl rfl ty3 hx70)) rfl ?_
         refine ol_r (r_assign rfl) rfl ?_
         refine ol_r (r_assign rfl) rfl ?_
         refine ol_nil (to_k0 (fun _ _ h => h) (hK36 _ _ _ _ _ ?_))
         clear hK36
         refine wp_reg ?_
         refine ol_r (r_ld (id := 7) rfl rfl rfl sc28) rfl ?_
         refine ol_r (r_move rfl) rfl ?_
         refine ol_r (r_move rfl) rfl ?_
         refine ol_ixo (id := 3007) encGPiece _ rfl rfl rfl rfl sl28 (by omega) rfl fun x75 hx75 => ?_
         try simp only [Int.toNat_natCast] at hx75
         try simp only [Int.toNat_natCast] at hx75
         refine ol_r (r_faO (id := 3007) rfl rfl rfl hx75 fl36_4) rfl ?_
         refine ol_storeRowF (id := 3007) _ _ (⟨x75.use, x75.slot, x75.part, x75.sec, x70⟩) rfl rfl rfl rfl rfl rfl sz3 hx75 (by decide) rfl ?_
         refine ol_nil (to_k0 (fun _ _ h => h) (hK35 _ _ _ _ _ ?_))
         clear hK35
         refine wp_reg ?_
         refine ol_r (r_add rfl rfl (by omega)) rfl ?_
         refine ol_r (r_move rfl) rfl ?_
         refine ol_nil (to_k0 (fun _ _ h => h) (hK32 (r + 1) _ _ ?_ ?_ (sub_cons rfl sub_nil) (sub_cons rfl (sub_cons rfl (sub_cons rfl (sub_cons rfl sub_nil)))) (by exact (subH_row rfl (by first | (dsimp only; exact (wayK_row hx75 hx70).symm; done) | (exact (wayK_row hx75 hx70).symm; done) | (dsimp only; done)) subH_nil)) (subH_same rfl (subH_same rfl (subH_same rfl (subH_same rfl (subH_same rfl (subH_same rfl (subH_same rfl subH_nil)))))))))
         ·try dsimp only
          omega
         ·try dsimp only
          omega
        ·refine wp_exit' (to_k0 (fun _ _ h => h) (hK30 _ _ _ _ _ ?_))
         clear hK30
         refine wp_seq' fun K37 hK37 => ?_
         refine wp_reg ?_
         refine ol_r (r_ld (id := 7) rfl rfl rfl sc28) rfl ?_
         refine ol_r (r_assign rfl) rfl ?_
         refine ol_nil (to_k0 (fun _ _ h => h) (hK37 _ _ _ _ _ ?_))
         clear hK37
         refine hQ.ret (rvs1 (rv_t rfl)) (fun _ _ h => h) fun w hb hs hB hkd => ?_
         have hr2 : r = ys.length := by omega
         rw [hr2] at hs
         refine ⟨_, _, _, rfl, hb, ?_⟩
         have h9 := hs.ok 3007 _ rfl
         rw [piecesR, ← hys, ← hws]
         exact h9
end Go.Proofs.Ytfbmkepogcimlaa

/-
  Entries under other numbers: a function that works in its caller's blocks.
-/

namespace Go.Proofs.Ytfbmkepogcimlaa.Hx
open Go Go.RowKit
def upH (k : Nat) (H : HL) : HL := H.map fun p => (p.1 + k, p.2)
theorem look_up (k : Nat) : ∀ (H : HL) (i : Nat), look (upH k H) (i + k) = look H i
  | [], i => rfl
  | (j, e) :: r, i => by
    show look ((j + k, e) :: upH k r) (i + k) = look ((j, e) :: r) i
    by_cases h : j = i
    · subst h; rw [look_cons_eq, look_cons_eq]
    · rw [look_cons_ne _ _ (by omega), look_cons_ne _ _ h, look_up k r i]
theorem look_up' (k : Nat) : ∀ (H : HL) (i : Nat) (e : Ent), look (upH k H) i = some e → ∃ j, i = j + k
  | [], i, e, h => by simp [upH, look] at h
  | (j, e') :: r, i, e, h => by
    by_cases hi : j + k = i
    · exact ⟨j, hi.symm⟩
    · have : look (upH k r) i = some e := by
        rw [← h]
        show _ = look ((j + k, e') :: upH k r) i
        rw [look_cons_ne _ _ hi]
      exact look_up' k r i e this
theorem Sat.up {B : Nat} {w : World} {H : HL} (k : Nat) (h : Sat B w H) : Sat B w (upH k H) := by
  refine ⟨fun i e hi => ?_, fun i j e f hij hi hj => ?_⟩
  · obtain ⟨j, rfl⟩ := look_up' k H i e hi
    rw [look_up] at hi
    exact h.ok j e hi
  · obtain ⟨i, rfl⟩ := look_up' k H i e hi
    obtain ⟨j, rfl⟩ := look_up' k H j f hj
    rw [look_up] at hi hj
    exact h.apart i j e f (by omega) hi hj
theorem Sat.down {B : Nat} {w : World} {H : HL} {H' : HL} (k : Nat) (h : Sat B w H) (hs : SubH (upH k H') H) : Sat B w H' := by
  have h1 := h.sub hs
  refine ⟨fun i e hi => h1.ok (i + k) e (by rw [look_up]; exact hi), fun i j e f hij hi hj => h1.apart (i + k) (j + k) e f (by omega) (by rw [look_up]; exact hi) (by rw [look_up]; exact hj)⟩
end Go.Proofs.Ytfbmkepogcimlaa.Hx
