/-
  More rules: an append of a whole slice to none.
-/
import Derived.Laws.Bits64b
import Derived.Test.YtjflbnbofedlkaaXmA
import Derived.Test.YtjflbnbofedlkaaXmB


namespace Go.Proofs.Ytjflbnbofedlkaa.Hx
open Go Go.RowKit
set_option linter.unusedVariables false
set_option linter.unusedSimpArgs false
section
variable {P : Program} {N : Fr} {B : Nat} {w0 : World} {Q : Exit → Act → World → Prop} {al : AL} {H : HL} {ops rest : List Oper} {d : Nat} {ty : TypeId} {pos : String} {after : Array Edge}
theorem r_append_nn {s x : Operand} {t e : TypeId} {size bytes c : Nat} (hs : ev al s = some (.slice none 0 0)) (hx : ev al x = some (.slice none 0 c)) (hT : RowT P t e size bytes) :
    Runs P N B w0 (.call { callee := .builtin .append, args := #[s, x], argTypes := #[t, t] }) ty al H (.slice none 0 0) := fun a w hst => by
  obtain ⟨hu, i, z, hi, hz, hsz, hby, hzz, hpos⟩ := hT
  simp [BigFrame.execOp_builtin, BigFrame.builtin_append, hst.regs.eval hs, hst.regs.eval hx, Builtin.append_, run_underlying hu, sizeOf, typeInfo, hi, Builtin.lenOf, Builtin.firstCells]
/-- A loop, its rounds one by one. -/
theorem wp_seq_cutM {x y : Code} {σ : Type} (I : σ → Prop) (M : σ → AL) (L : AL) (G : σ → HL) (G0 : HL) (hL : Sub L al) (hh0 : SubH G0 H)
    (hx : ∀ K : Act → World → Prop, (∀ s al' H', I s → Sub (M s) al' → Sub L al' → SubH (G s) H' → SubH G0 H' → KP N B w0 K al' H') → WP P N B w0 x (Exit.then K Q) al H)
    (hy : ∀ s, I s → WP P N B w0 y Q (M s ++ L) (G s ++ G0)) : WP P N B w0 (.seq x y) Q al H :=
  wp_seq_cut I (fun s => M s ++ L) (fun s => G s ++ G0) (fun K hK => hx K fun s al' H' h1 h2 h3 h4 h5 => (hK s h1).sub (sub_app h2 h3) (subH_app h4 h5)) hy
theorem wp_unroll {c : Code} (n : Nat) (h : KP N B w0 (dloop (D N.y P c) Q n) al H) : WP P N B w0 (.loop c) Q al H := fun a w hst => ⟨n, h a w hst⟩
theorem kp_unroll {c : Code} {n : Nat} (h : ∀ K : Act → World → Prop, (∀ al' H', KP N B w0 (dloop (D N.y P c) Q n) al' H' → KP N B w0 K al' H') → WP P N B w0 c (Exit.then K Q) al H) : KP N B w0 (dloop (D N.y P c) Q (n + 1)) al H :=
  h _ (fun _ _ h => h)
theorem look_shadow {β : Type} (id : Nat) (x y : β) (H : List (Nat × β)) (j : Nat) : look ((id, x) :: (id, y) :: H) j = look ((id, x) :: H) j := by
  by_cases h : id = j
  · subst h; rw [look_cons_eq, look_cons_eq]
  · rw [look_cons_ne _ _ h, look_cons_ne _ _ h, look_cons_ne _ _ h]
theorem Sat.shadow {w : World} {id : Nat} {x y : Ent} (h : Sat B w ((id, x) :: (id, y) :: H)) : Sat B w ((id, x) :: H) :=
  ⟨fun i e he => h.ok i e (by rw [look_shadow]; exact he), fun i j e f hij he hf => h.apart i j e f hij (by rw [look_shadow]; exact he) (by rw [look_shadow]; exact hf)⟩
/-- What H' tells, H tells under other numbers. -/
def Keyed (H : HL) (ks : List (Nat × Nat)) (H' : HL) : Prop := ∀ j e, look H' j = some e → ∃ i, (i, j) ∈ ks ∧ look H i = some e
theorem keyed_nil : Keyed H [] [] := fun j e h => by simp [look] at h
theorem keyed_cons {i k : Nat} {e : Ent} {ks : List (Nat × Nat)} {H' : HL} (h : look H i = some e) (hk : Keyed H ks H') : Keyed H ((i, k) :: ks) ((k, e) :: H') := fun j f hj => by
  by_cases hkj : k = j
  · subst hkj; rw [look_cons_eq] at hj; cases hj; exact ⟨i, by simp, h⟩
  · rw [look_cons_ne _ _ hkj] at hj
    obtain ⟨i', h1, h2⟩ := hk j f hj
    exact ⟨i', by simp [h1], h2⟩
theorem Sat.keys {w : World} {H' : HL} (h : Sat B w H) (ks : List (Nat × Nat)) (hk : Keyed H ks H') (hd : ∀ p ∈ ks, ∀ q ∈ ks, p.1 = q.1 → p.2 = q.2) : Sat B w H' :=
  ⟨fun j e he => by obtain ⟨i, _, h2⟩ := hk j e he; exact h.ok i e h2, fun j j' e f hj he hf => by
    obtain ⟨i, a1, a2⟩ := hk j e he
    obtain ⟨i', b1, b2⟩ := hk j' f hf
    exact h.apart i i' e f (fun hii => hj (hd _ a1 _ b1 hii)) a2 b2⟩
theorem ol_appendN {s x : Operand} {m c : Nat} {ad : Option Addr} {t e : TypeId} {size bytes : Nat} {α : Type} (E : Enc α) {ys : List α} (id : Nat) (hs : ev al s = some (.slice none 0 0)) (hx : ev al x = some (.slice ad m c)) (hl : Rd E B w0 ad m c ys)
    (hz : size = E.size) (hT : RowT P t e size bytes) (hb : m ≤ 9223372036854775807 ∧ m * bytes ≤ 140737488355328) (hd : Nat.blt d N.n = true)
    (k : ∀ a' cap', OL P N B w0 ops rest Q ((d, .slice a' m cap') :: al) ((id, .row a' m cap' (E.enc ys) e size) :: H)) :
    OL P N B w0 ops ({ dst := some d, op := .call { callee := .builtin .append, args := #[s, x], argTypes := #[t, t] }, type := ty, pos, after, guard := none } :: rest) Q al H := by
  have hlen := hl.len
  cases ad with
  | none =>
    have hm : m = 0 := by
      cases m with
      | zero => rfl
      | succ m => have := hl.isSome (by omega); simp at this
    subst hm
    have hys : ys = [] := List.eq_nil_of_length_eq_zero hlen
    subst hys
    exact ol_r (r_append_nn hs hx hT) hd (ol_nilrow id e size (k none 0))
  | some p =>
    refine ol_nilrow id e size ?_
    refine ol_append (id := id) (news := E.enc ys) hs (look_cons_eq ..) hx hT (by rw [Enc.enc_len, hlen, hz]) (E.ones_enc ys) (fun w1 hb1 hs1 hB1 => ⟨p, rfl, (hl.below hb1).flat rfl⟩) (by simpa using hb) hd fun a' c' => ?_
    have h := k a' c'
    simp only [Nat.zero_add, List.nil_append]
    exact fun a w hst => h a w (hst.step hst.regs hst.below (Sat.shadow hst.sat) hst.base (Kd.refl _ _))
end
end Go.Proofs.Ytjflbnbofedlkaa.Hx

/-
  The stable sort of Go's library, over a row of ints of the caller's: walked. (Printed by gen_stab.py.)
-/



namespace Go.Proofs.Ytjflbnbofedlkaa
open Go Go.RowKit Hx
set_option linter.unusedVariables false
set_option linter.unusedSimpArgs false
set_option maxRecDepth 8000
def ltC (cf : Int → Int → Int) (x y : Int) : Bool := decide (cf x y < 0)
theorem ltC_t {cf : Int → Int → Int} {x y : Int} (h : cf x y < 0) : ltC cf x y = true := decide_eq_true h
theorem ltC_f {cf : Int → Int → Int} {x y : Int} (h : ¬cf x y < 0) : ltC cf x y = false := decide_eq_false h
theorem tab_eq {n : Nat} {f : Nat → Int} {k : Nat} {x : Int} (h : (tab n f)[k]? = some x) : f k = x := (tab_get h).2.symm
theorem sw_row {n i j : Nat} {f : Nat → Int} {x y : Int} {u v : Int} (hu : u.toNat = i) (hv : v.toNat = j) (hx : ∃ k, k = j ∧ (tab n f)[k]? = some x) (hy : ∃ k, k = i ∧ (tab n f)[k]? = some y) : ((tab n f).set u.toNat x).set v.toNat y = tab n (sw2 f i j) := by
  obtain ⟨_, rfl, hx⟩ := hx
  obtain ⟨_, rfl, hy⟩ := hy
  have h1 := tab_get hx
  have h2 := tab_get hy
  rw [hu, hv, h1.2, h2.2]
  exact tab_sw2 f h2.1 h1.1
theorem r_subT {P : Program} {N : Fr} {B : Nat} {w0 : World} {al : AL} {H : HL} {ty : TypeId} {x y : Operand} {t t' : TypeId} {m l : Int} (v : Nat) (hx : ev al x = some (.int .i64 m)) (hy : ev al y = some (.int .i64 l)) (h : m - l = v) (hv : v ≤ 1000000000000) : Runs P N B w0 (.binOp .sub t x y t') ty al H (.int .i64 (v : Int)) := by
  have h2 := r_sub (P := P) (N := N) (B := B) (w0 := w0) (H := H) (ty := ty) (t := t) (t' := t') hx hy (by omega)
  rw [h] at h2; exact h2
theorem r_addT {P : Program} {N : Fr} {B : Nat} {w0 : World} {al : AL} {H : HL} {ty : TypeId} {x y : Operand} {t t' : TypeId} {m l : Int} (v : Nat) (hx : ev al x = some (.int .i64 m)) (hy : ev al y = some (.int .i64 l)) (h : m + l = v) (hv : v ≤ 1000000000000) : Runs P N B w0 (.binOp .add t x y t') ty al H (.int .i64 (v : Int)) := by
  have h2 := r_add (P := P) (N := N) (B := B) (w0 := w0) (H := H) (ty := ty) (t := t) (t' := t') hx hy (by omega)
  rw [h] at h2; exact h2
theorem r_mulT {P : Program} {N : Fr} {B : Nat} {w0 : World} {al : AL} {H : HL} {ty : TypeId} {x y : Operand} {t t' : TypeId} {m l : Int} (v : Nat) (hx : ev al x = some (.int .i64 m)) (hy : ev al y = some (.int .i64 l)) (h : m * l = v) (hv : v ≤ 1000000000000) : Runs P N B w0 (.binOp .mul t x y t') ty al H (.int .i64 (v : Int)) := by
  have h2 := r_mul (P := P) (N := N) (B := B) (w0 := w0) (H := H) (ty := ty) (t := t) (t' := t') hx hy (by omega)
  rw [h] at h2; exact h2
theorem rotF_id1 (f : Nat → Int) (m b : Nat) : rotF f m m b = f := by
  funext x
  simp only [rotF]
  repeat' split
  all_goals first | (exfalso; omega) | (congr 1; omega) | rfl
theorem rotF_id2 (f : Nat → Int) (a m : Nat) : rotF f a m m = f := by
  funext x
  simp only [rotF]
  repeat' split
  all_goals first | (exfalso; omega) | (congr 1; omega) | rfl
theorem RR.lt_left {lt : Int → Int → Bool} (hw : Swo lt) {x h p : Int} (h1 : RR lt x h) (h2 : lt h p = true) : lt x p = true := by
  rcases h1 with h1 | ⟨h1, _⟩
  · exact hw.trans _ _ _ h1 h2
  · cases h3 : lt x p with
    | true => rfl
    | false => have := hw.inc _ _ _ h1 h3; rw [h2] at this; cases this
theorem RR.lt_right {lt : Int → Int → Bool} (hw : Swo lt) {x h m : Int} (h1 : RR lt x h) (h2 : lt m x = true) : lt m h = true := by
  rcases h1 with h1 | ⟨h1, _⟩
  · exact hw.trans _ _ _ h2 h1
  · cases h3 : lt m h with
    | true => rfl
    | false => have := hw.inc _ _ _ h3 h1; rw [h2] at this; cases this
theorem good_of {Good : Int → Prop} {f g : Nat → Int} {n : Nat} (h : ∀ i, i < n → Good (f i)) (hs : SaS f g 0 n) : ∀ i, i < n → Good (g i) := fun i hi => by
  obtain ⟨y, _, h2, h3⟩ := hs.2 i (Nat.zero_le _) hi
  rw [h3]; exact h y h2
theorem Blo.all {lt : Int → Int → Bool} {f g : Nat → Int} {a b n : Nat} (h : Blo lt f g a b) (hab : a ≤ b) (hb : b ≤ n) : SaS f g 0 n := h.sa.widen (Nat.zero_le _) hb hab h.out
/-- Blocks of a size are sorted, each with what it held. -/
def Blks (lt : Int → Int → Bool) (f F : Nat → Int) (s n : Nat) : Prop := ∀ p, s ∣ p → p < n → SoR lt F p (min (p + s) n) ∧ SaS f F p (min (p + s) n)

theorem swapRange_w (cf : Int → Int → Int) (Good : Int → Prop) (B : Nat) (cb : Nat) (a : Option Addr) (n c : Nat) (e1 e2 e3 e4 e5 e6 e7 e8 e9 e10 : Ent) (f : Nat → Int) (p q m : Nat) (w : World) (hB : B ≤ w.heap.size) (hn : n ≤ 1000000) (h1 : p + m ≤ q) (h2 : q + m ≤ n) (hs : Sat B w [(5000, .row a n c (encI.enc (tab n f)) 3 1), (5001, e1), (5002, e2), (5003, e3), (5004, e4), (5005, e5), (5006, e6), (5007, e7), (5008, e8), (5009, e9), (5010, e10)]) :
    Calls Try.prog 157 #[.slice a n c, .int .i64 p, .int .i64 q, .int .i64 m, .func (.func 104) #[] #[.pointer (some ⟨cb, 0, none⟩)]] w fun e w' => ∃ g, e = .returned (.tuple #[]) ∧ Below B w w' ∧ Sat B w' [(5000, .row a n c (encI.enc (tab n g)) 3 1), (5001, e1), (5002, e2), (5003, e3), (5004, e4), (5005, e5), (5006, e6), (5007, e7), (5008, e8), (5009, e9), (5010, e10)] ∧ B ≤ w'.heap.size ∧ Kd (fun _ => False) w w' ∧ g = swF f p q m := by

  refine enterQ (N := 38) (C := fun _ => False) (H := [(5000, .row a n c (encI.enc (tab n f)) 3 1), (5001, e1), (5002, e2), (5003, e3), (5004, e4), (5005, e5), (5006, e6), (5007, e7), (5008, e8), (5009, e9), (5010, e10)]) (B := B) (args := [_, _, _, _, _]) Try.func157 rfl rfl rfl (hB) (hs) fun Q hQ => ?_
  refine wp_seq' fun K1 hK1 => ?_
  refine wp_reg ?_
  refine ol_r (r_assign rfl) rfl ?_
  refine ol_nil (to_k0 (fun _ _ h => h) (hK1 _ _ _ _ _ ?_))
  clear hK1
  refine wp_block' ?_
  apply wp_loopM (σ := Nat) (fun s => s ≤ m) (fun s => [(10, .int .i64 s)]) [(0, _), (1, _), (2, _), (3, _)] (fun s => [(5000, .row a n c (encI.enc (tab n (swF f p q s))) 3 1)]) [(5001, _), (5002, _), (5003, _), (5004, _), (5005, _), (5006, _), (5007, _), (5008, _), (5009, _), (5010, _)] (fun s => m - s) (0)
  ·try dsimp only
   exact Nat.zero_le _
  ·exact (sub_cons rfl sub_nil)
  ·exact (sub_cons rfl (sub_cons rfl (sub_cons rfl (sub_cons rfl sub_nil))))
  ·exact (subH_row rfl (by rw [swF_zero]) subH_nil)
  ·exact (subH_same rfl (subH_same rfl (subH_same rfl (subH_same rfl (subH_same rfl (subH_same rfl (subH_same rfl (subH_same rfl (subH_same rfl (subH_same rfl subH_nil))))))))))
  ·rintro k hk
   have hFl := tab_len n (swF f p q k)
   intro K2 hK2
   refine wp_seq' fun K3 hK3 => ?_
   refine wp_seq' fun K4 hK4 => ?_
   refine wp_reg ?_
   refine ol_r (r_move rfl) rfl ?_
   refine ol_r (r_move rfl) rfl ?_
   refine ol_r (r_lss rfl rfl) rfl ?_
   refine ol_nil (to_k0 (fun _ _ h => h) (hK4 _ _ _ _ _ ?_))
   clear hK4
   refine wp_condD rfl (fun hc13 => ?_) (fun hc13 => ?_)
   ·refine wp_skip' (to_k0 (fun _ _ h => h) (hK3 _ _ _ _ _ ?_))
    clear hK3
    refine wp_seq' fun K5 hK5 => ?_
    refine wp_block' ?_
    refine wp_rega [(999, [(5001, _), (5002, _), (5003, _), (5004, _), (5005, _), (5006, _), (5007, _), (5008, _), (5009, _), (5010, _)]), (21, [(5000, _)])] (by kernel_rfl) ⟨.inr (subH_same rfl (subH_same rfl (subH_same rfl (subH_same rfl (subH_same rfl (subH_same rfl (subH_same rfl (subH_same rfl (subH_same rfl (subH_same rfl subH_nil)))))))))), ⟨.inr (subH_same rfl subH_nil), trivial⟩⟩ ?_
    refine aq_r 0 999 rfl (by kernel_rfl) (by kernel_rfl) (by kernel_rfl) (.head _) (by kernel_rfl) (by kernel_rfl) rfl (r_move rfl) ?_
    refine aq_r 1 999 rfl (by kernel_rfl) (by kernel_rfl) (by kernel_rfl) (.head _) (by kernel_rfl) (by kernel_rfl) rfl (r_move rfl) ?_
    refine aq_r 2 999 rfl (by kernel_rfl) (by kernel_rfl) (by kernel_rfl) (.head _) (by kernel_rfl) (by kernel_rfl) rfl (r_move rfl) ?_
    refine aq_r 3 999 rfl (by kernel_rfl) (by kernel_rfl) (by kernel_rfl) (.head _) (by kernel_rfl) (by kernel_rfl) rfl (r_add rfl rfl (by omega)) ?_
    refine aq_r 4 999 rfl (by kernel_rfl) (by kernel_rfl) (by kernel_rfl) (.head _) (by kernel_rfl) (by kernel_rfl) rfl (r_move rfl) ?_
    refine aq_r 5 999 rfl (by kernel_rfl) (by kernel_rfl) (by kernel_rfl) (.head _) (by kernel_rfl) (by kernel_rfl) rfl (r_move rfl) ?_
    refine aq_r 6 999 rfl (by kernel_rfl) (by kernel_rfl) (by kernel_rfl) (.head _) (by kernel_rfl) (by kernel_rfl) rfl (r_move rfl) ?_
    refine aq_r 7 999 rfl (by kernel_rfl) (by kernel_rfl) (by kernel_rfl) (.head _) (by kernel_rfl) (by kernel_rfl) rfl (r_add rfl rfl (by omega)) ?_
    refine aq_r 8 999 rfl (by kernel_rfl) (by kernel_rfl) (by kernel_rfl) (.head _) (by kernel_rfl) (by kernel_rfl) rfl (r_move rfl) ?_
    refine aq_r 9 999 rfl (by kernel_rfl) (by kernel_rfl) (by kernel_rfl) (.head _) (by kernel_rfl) (by kernel_rfl) rfl (r_move rfl) ?_
    refine aq_r 10 999 rfl (by kernel_rfl) (by kernel_rfl) (by kernel_rfl) (.head _) (by kernel_rfl) (by kernel_rfl) rfl (r_move rfl) ?_
    refine aq_r 11 999 rfl (by kernel_rfl) (by kernel_rfl) (by kernel_rfl) (.head _) (by kernel_rfl) (by kernel_rfl) rfl (r_add rfl rfl (by omega)) ?_
    refine aq_ixo 12 21 rfl (by kernel_rfl) (by kernel_rfl) (by kernel_rfl) (.tail _ (.head _)) (by kernel_rfl) (by kernel_rfl) rfl (id := 5000) encI _ rfl rfl rfl rfl sl150 (by omega) (by omega) fun x28 hx28 => ?_
    try simp only [Int.toNat_natCast] at hx28
    try simp only [Int.toNat_natCast] at hx28
    refine aq_r 13 21 rfl (by kernel_rfl) (by kernel_rfl) (by kernel_rfl) (.tail _ (.head _)) (by kernel_rfl) (by kernel_rfl) rfl (r_ldw rfl (fun w1 hb1 hs1 hB1 => show Loads _ _ _ _ (.int .i64 x28) from ld_own (id := 5000) hs1 rfl rfl ty3 hx28)) ?_
    refine aq_r 14 999 rfl (by kernel_rfl) (by kernel_rfl) (by kernel_rfl) (.head _) (by kernel_rfl) (by kernel_rfl) rfl (r_move rfl) ?_
    refine aq_r 15 999 rfl (by kernel_rfl) (by kernel_rfl) (by kernel_rfl) (.head _) (by kernel_rfl) (by kernel_rfl) rfl (r_move rfl) ?_
    refine aq_r 16 999 rfl (by kernel_rfl) (by kernel_rfl) (by kernel_rfl) (.head _) (by kernel_rfl) (by kernel_rfl) rfl (r_move rfl) ?_
    refine aq_r 17 999 rfl (by kernel_rfl) (by kernel_rfl) (by kernel_rfl) (.head _) (by kernel_rfl) (by kernel_rfl) rfl (r_add rfl rfl (by omega)) ?_
    refine aq_one (i := 18) (by kernel_rfl) rfl fun K6 hK6 => ?_
    refine ol_ixo (id := 5000) encI _ rfl rfl rfl rfl sl150 (by omega) rfl fun x34 hx34 => ?_
    try simp only [Int.toNat_natCast] at hx34
    try simp only [Int.toNat_natCast] at hx34
    refine ol_nil (to_k0 (fun _ _ h => h) (hK6 _ _ ⟨.inr (by repeat' first | exact subH_nil | refine subH_same rfl ?_ | (refine subH_blk rfl (by repeat' first | exact sub_nil | refine sub_cons rfl ?_) ?_)), ⟨.inr (by repeat' first | exact subH_nil | refine subH_same rfl ?_ | (refine subH_blk rfl (by repeat' first | exact sub_nil | refine sub_cons rfl ?_) ?_)), trivial⟩⟩ ?_))
    clear hK6
    refine aq_r 19 21 rfl (by kernel_rfl) (by kernel_rfl) (by kernel_rfl) (.tail _ (.head _)) (by kernel_rfl) (by kernel_rfl) rfl (r_ldw rfl (fun w1 hb1 hs1 hB1 => show Loads _ _ _ _ (.int .i64 x34) from ld_own (id := 5000) hs1 rfl rfl ty3 hx34)) ?_
    refine aq_ixo 20 21 rfl (by kernel_rfl) (by kernel_rfl) (by kernel_rfl) (.tail _ (.head _)) (by kernel_rfl) (by kernel_rfl) rfl (id := 5000) encI _ rfl rfl rfl rfl sl150 (by omega) (by omega) fun x36 hx36 => ?_
    try simp only [Int.toNat_natCast] at hx36
    try simp only [Int.toNat_natCast] at hx36
    refine aq_one (i := 21) (by kernel_rfl) rfl fun K7 hK7 => ?_
    refine ol_storeRow (id := 5000) _ _ _ rfl rfl rfl rfl sz3 (by omega) ?_
    refine ol_nil (to_k0 (fun _ _ h => h) (hK7 _ _ ⟨.inr (by repeat' first | exact subH_nil | refine subH_same rfl ?_ | (refine subH_blk rfl (by repeat' first | exact sub_nil | refine sub_cons rfl ?_) ?_)), ⟨.inl (by kernel_rfl), trivial⟩⟩ ?_))
    clear hK7
    refine aq_one (i := 22) (by kernel_rfl) rfl fun K8 hK8 => ?_
    refine ol_ixo (id := 5000) encI _ rfl rfl rfl rfl sl150 (by omega) rfl fun x37 hx37 => ?_
    try simp only [Int.toNat_natCast] at hx37
    try simp only [Int.toNat_natCast] at hx37
    refine ol_nil (to_k0 (fun _ _ h => h) (hK8 _ _ ⟨.inr (by repeat' first | exact subH_nil | refine subH_same rfl ?_ | (refine subH_blk rfl (by repeat' first | exact sub_nil | refine sub_cons rfl ?_) ?_)), ⟨.inl (by kernel_rfl), trivial⟩⟩ ?_))
    clear hK8
    refine aq_one (i := 23) (by kernel_rfl) rfl fun K9 hK9 => ?_
    refine ol_storeRow (id := 5000) _ _ _ rfl rfl rfl rfl sz3 (by omega) ?_
    refine ol_nil (to_k0 (fun _ _ h => h) (hK9 _ _ ⟨.inr (by repeat' first | exact subH_nil | refine subH_same rfl ?_ | (refine subH_blk rfl (by repeat' first | exact sub_nil | refine sub_cons rfl ?_) ?_)), ⟨.inl (by kernel_rfl), trivial⟩⟩ ?_))
    clear hK9
    refine aq_done (by kernel_rfl) ?_
    refine (to_k0 (fun _ _ h => h) (hK5 _ _ _ _ _ ?_))
    clear hK5
    refine wp_reg ?_
    refine ol_r (r_move rfl) rfl ?_
    refine ol_r (r_add rfl rfl (by omega)) rfl ?_
    refine ol_r (r_assign rfl) rfl ?_
    refine ol_nil (to_k0 (fun _ _ h => h) (hK2 (k + 1) _ _ ?_ ?_ (sub_cons rfl sub_nil) (sub_cons rfl (sub_cons rfl (sub_cons rfl (sub_cons rfl sub_nil)))) (by exact (subH_row rfl (by (rw [swF_succ (by omega), sw_row (i := p + k) (j := q + k) (by omega) (by omega) ⟨_, by omega, hx28⟩ ⟨_, by omega, hx34⟩])) subH_nil)) (subH_same rfl (subH_same rfl (subH_same rfl (subH_same rfl (subH_same rfl (subH_same rfl (subH_same rfl (subH_same rfl (subH_same rfl (subH_same rfl subH_nil))))))))))))
    ·try dsimp only
     omega
    ·try dsimp only
     omega
   ·refine wp_exit' (hQ.fall rvs0 (fun _ _ h => h) fun w hb hs hB hkd => ?_)
    obtain rfl : k = m := by omega
    exact ⟨_, rfl, hb, hs.sub (subH_same rfl (subH_same rfl (subH_same rfl (subH_same rfl (subH_same rfl (subH_same rfl (subH_same rfl (subH_same rfl (subH_same rfl (subH_same rfl (subH_same rfl subH_nil))))))))))), hB, hkd, rfl⟩

theorem rotate_w (cf : Int → Int → Int) (Good : Int → Prop) (B : Nat) (cb : Nat) (a : Option Addr) (n c : Nat) (e1 e2 e3 e4 e5 e6 e7 e8 e9 e10 : Ent) (f : Nat → Int) (p m q : Nat) (w : World) (hB : B ≤ w.heap.size) (hn : n ≤ 1000000) (h1 : p < m) (h2 : m < q) (h3 : q ≤ n) (hs : Sat B w [(5000, .row a n c (encI.enc (tab n f)) 3 1), (5001, e1), (5002, e2), (5003, e3), (5004, e4), (5005, e5), (5006, e6), (5007, e7), (5008, e8), (5009, e9), (5010, e10)]) :
    Calls Try.prog 156 #[.slice a n c, .int .i64 p, .int .i64 m, .int .i64 q, .func (.func 104) #[] #[.pointer (some ⟨cb, 0, none⟩)]] w fun e w' => ∃ g, e = .returned (.tuple #[]) ∧ Below B w w' ∧ Sat B w' [(5000, .row a n c (encI.enc (tab n g)) 3 1), (5001, e1), (5002, e2), (5003, e3), (5004, e4), (5005, e5), (5006, e6), (5007, e7), (5008, e8), (5009, e9), (5010, e10)] ∧ B ≤ w'.heap.size ∧ Kd (fun _ => False) w w' ∧ g = rotF f p m q := by

  refine enterQ (N := 58) (C := fun _ => False) (H := [(5000, .row a n c (encI.enc (tab n f)) 3 1), (5001, e1), (5002, e2), (5003, e3), (5004, e4), (5005, e5), (5006, e6), (5007, e7), (5008, e8), (5009, e9), (5010, e10)]) (B := B) (args := [_, _, _, _, _]) Try.func156 rfl rfl rfl (hB) (hs) fun Q hQ => ?_
  refine wp_seq' fun K1 hK1 => ?_
  refine wp_reg ?_
  refine ol_r (r_move rfl) rfl ?_
  refine ol_r (r_move rfl) rfl ?_
  refine ol_r (r_subT (m - p) rfl rfl (by omega) (by omega)) rfl ?_
  refine ol_r (r_assign rfl) rfl ?_
  refine ol_nil (to_k0 (fun _ _ h => h) (hK1 _ _ _ _ _ ?_))
  clear hK1
  refine wp_seq' fun K2 hK2 => ?_
  refine wp_reg ?_
  refine ol_r (r_move rfl) rfl ?_
  refine ol_r (r_move rfl) rfl ?_
  refine ol_r (r_subT (q - m) rfl rfl (by omega) (by omega)) rfl ?_
  refine ol_r (r_assign rfl) rfl ?_
  refine ol_nil (to_k0 (fun _ _ h => h) (hK2 _ _ _ _ _ ?_))
  clear hK2
  refine wp_seq' fun K3 hK3 => ?_
  refine wp_block' ?_
  apply wp_loopM (σ := Nat × Nat × (Nat → Int)) (fun s => 0 < s.1 ∧ 0 < s.2.1 ∧ s.1 ≤ m - p ∧ s.2.1 ≤ q - m ∧ rotF s.2.2 (m - s.1) m (m + s.2.1) = rotF f p m q) (fun s => [(10, .int .i64 s.1), (11, .int .i64 s.2.1)]) [(0, _), (2, _), (4, _)] (fun s => [(5000, .row a n c (encI.enc (tab n s.2.2)) 3 1)]) [(5001, _), (5002, _), (5003, _), (5004, _), (5005, _), (5006, _), (5007, _), (5008, _), (5009, _), (5010, _)] (fun s => s.1 + s.2.1) ((m - p, q - m, f))
  ·try dsimp only
   exact ⟨by omega, by omega, Nat.le_refl _, Nat.le_refl _, by rw [show m - (m - p) = p by omega, show m + (q - m) = q by omega]⟩
  ·exact (sub_cons rfl (sub_cons rfl sub_nil))
  ·exact (sub_cons rfl (sub_cons rfl (sub_cons rfl sub_nil)))
  ·exact (subH_row rfl (by rfl) subH_nil)
  ·exact (subH_same rfl (subH_same rfl (subH_same rfl (subH_same rfl (subH_same rfl (subH_same rfl (subH_same rfl (subH_same rfl (subH_same rfl (subH_same rfl subH_nil))))))))))
  ·rintro ⟨i, j, F⟩ ⟨hi, hj, hi2, hj2, hF⟩
   dsimp only at hi hj hi2 hj2 hF ⊢
   intro K4 hK4
   refine wp_seq' fun K5 hK5 => ?_
   refine wp_seq' fun K6 hK6 => ?_
   refine wp_reg ?_
   skip
   refine ol_r (r_move rfl) rfl ?_
   refine ol_r (r_move rfl) rfl ?_
   refine ol_r (r_neq rfl rfl) rfl ?_
   refine ol_nil (to_k0 (fun _ _ h => h) (hK6 _ _ _ _ _ ?_))
   clear hK6
   refine wp_condD rfl (fun hc20 => ?_) (fun hc20 => ?_)
   ·refine wp_skip' (to_k0 (fun _ _ h => h) (hK5 _ _ _ _ _ ?_))
    clear hK5
    refine wp_block' ?_
    refine wp_seq' fun K7 hK7 => ?_
    refine wp_reg ?_
    refine ol_r (r_move rfl) rfl ?_
    refine ol_r (r_move rfl) rfl ?_
    refine ol_r (r_gtr rfl rfl) rfl ?_
    refine ol_nil (to_k0 (fun _ _ h => h) (hK7 _ _ _ _ _ ?_))
    clear hK7
    refine wp_condD rfl (fun hc23 => ?_) (fun hc23 => ?_)
    ·refine wp_seq' fun K8 hK8 => ?_
     refine wp_reg ?_
     refine ol_r (r_move rfl) rfl ?_
     refine ol_r (r_move rfl) rfl ?_
     refine ol_r (r_move rfl) rfl ?_
     refine ol_r (r_subT (m - i) rfl rfl (by omega) (by omega)) rfl ?_
     refine ol_r (r_move rfl) rfl ?_
     refine ol_r (r_move rfl) rfl ?_
     refine ol_r (r_move rfl) rfl ?_
     refine ol_call rfl rfl cb157 rfl (fun w1 hb1 hs1 hB1 => ?_)
     refine Calls.mono (swapRange_w cf Good B cb a n c e1 e2 e3 e4 e5 e6 e7 e8 e9 e10 F (m - i) m j _ hB1 hn (by omega) (by omega) (hs1.sub (subH_same rfl (subH_same rfl (subH_same rfl (subH_same rfl (subH_same rfl (subH_same rfl (subH_same rfl (subH_same rfl (subH_same rfl (subH_same rfl (subH_same rfl subH_nil))))))))))))) ?_
     rintro e w2 ⟨g, rfl, hb2, hs2, hB2, hk2, hg⟩
     refine After.sat rfl hb1 hb2 hs2 hB2 (hk2.imp fun _ h => h.elim) ?_
     clear hk2 hs2 hb2 hB2 hB1 hs1 hb1 w2 w1
     refine ol_nil (to_k0 (fun _ _ h => h) (hK8 _ _ _ _ _ ?_))
     clear hK8
     refine wp_reg ?_
     refine ol_r (r_move rfl) rfl ?_
     refine ol_r (r_move rfl) rfl ?_
     refine ol_r (r_subT (i - j) rfl rfl (by omega) (by omega)) rfl ?_
     refine ol_r (r_assign rfl) rfl ?_
     refine ol_nil (to_k0 (fun _ _ h => h) (hK4 ((_, _, _)) _ _ ?_ ?_ (sub_cons rfl (sub_cons rfl sub_nil)) (sub_cons rfl (sub_cons rfl (sub_cons rfl sub_nil))) (by exact (subH_row rfl (by rfl) subH_nil)) (subH_same rfl (subH_same rfl (subH_same rfl (subH_same rfl (subH_same rfl (subH_same rfl (subH_same rfl (subH_same rfl (subH_same rfl (subH_same rfl subH_nil))))))))))))
     ·try dsimp only
      first
        | exact ⟨by omega, by omega, by omega, by omega, by rw [hg, rot_gt (by omega) (by omega) (by omega)]; exact hF⟩
     ·try dsimp only
      omega
    ·refine wp_seq' fun K9 hK9 => ?_
     refine wp_reg ?_
     refine ol_r (r_move rfl) rfl ?_
     refine ol_r (r_move rfl) rfl ?_
     refine ol_r (r_move rfl) rfl ?_
     refine ol_r (r_subT (m - i) rfl rfl (by omega) (by omega)) rfl ?_
     refine ol_r (r_move rfl) rfl ?_
     refine ol_r (r_move rfl) rfl ?_
     refine ol_r (r_add rfl rfl (by omega)) rfl ?_
     refine ol_r (r_move rfl) rfl ?_
     refine ol_r (r_subT (m + j - i) rfl rfl (by omega) (by omega)) rfl ?_
     refine ol_r (r_move rfl) rfl ?_
     refine ol_r (r_move rfl) rfl ?_
     refine ol_call rfl rfl cb157 rfl (fun w1 hb1 hs1 hB1 => ?_)
     refine Calls.mono (swapRange_w cf Good B cb a n c e1 e2 e3 e4 e5 e6 e7 e8 e9 e10 F (m - i) (m + j - i) i _ hB1 hn (by omega) (by omega) (hs1.sub (subH_same rfl (subH_same rfl (subH_same rfl (subH_same rfl (subH_same rfl (subH_same rfl (subH_same rfl (subH_same rfl (subH_same rfl (subH_same rfl (subH_same rfl subH_nil))))))))))))) ?_
     rintro e w2 ⟨g, rfl, hb2, hs2, hB2, hk2, hg⟩
     refine After.sat rfl hb1 hb2 hs2 hB2 (hk2.imp fun _ h => h.elim) ?_
     clear hk2 hs2 hb2 hB2 hB1 hs1 hb1 w2 w1
     refine ol_nil (to_k0 (fun _ _ h => h) (hK9 _ _ _ _ _ ?_))
     clear hK9
     refine wp_reg ?_
     refine ol_r (r_move rfl) rfl ?_
     refine ol_r (r_move rfl) rfl ?_
     refine ol_r (r_subT (j - i) rfl rfl (by omega) (by omega)) rfl ?_
     refine ol_r (r_assign rfl) rfl ?_
     refine ol_nil (to_k0 (fun _ _ h => h) (hK4 ((_, _, _)) _ _ ?_ ?_ (sub_cons rfl (sub_cons rfl sub_nil)) (sub_cons rfl (sub_cons rfl (sub_cons rfl sub_nil))) (by exact (subH_row rfl (by rfl) subH_nil)) (subH_same rfl (subH_same rfl (subH_same rfl (subH_same rfl (subH_same rfl (subH_same rfl (subH_same rfl (subH_same rfl (subH_same rfl (subH_same rfl subH_nil))))))))))))
     ·try dsimp only
      first
        | exact ⟨by omega, by omega, by omega, by omega, by rw [hg, rot_lt (by omega) (by omega) (by omega)]; exact hF⟩
     ·try dsimp only
      omega
   ·refine wp_exit' (to_k0 (fun _ _ h => h) (hK3 _ _ _ _ _ ?_))
    clear hK3
    refine wp_reg ?_
    obtain rfl : i = j := by omega
    refine ol_r (r_move rfl) rfl ?_
    refine ol_r (r_move rfl) rfl ?_
    refine ol_r (r_move rfl) rfl ?_
    refine ol_r (r_subT (m - i) rfl rfl (by omega) (by omega)) rfl ?_
    refine ol_r (r_move rfl) rfl ?_
    refine ol_r (r_move rfl) rfl ?_
    refine ol_r (r_move rfl) rfl ?_
    refine ol_call rfl rfl cb157 rfl (fun w1 hb1 hs1 hB1 => ?_)
    refine Calls.mono (swapRange_w cf Good B cb a n c e1 e2 e3 e4 e5 e6 e7 e8 e9 e10 F (m - i) m i _ hB1 hn (by omega) (by omega) (hs1.sub (subH_same rfl (subH_same rfl (subH_same rfl (subH_same rfl (subH_same rfl (subH_same rfl (subH_same rfl (subH_same rfl (subH_same rfl (subH_same rfl (subH_same rfl subH_nil))))))))))))) ?_
    rintro e w2 ⟨g, rfl, hb2, hs2, hB2, hk2, hg⟩
    refine After.sat rfl hb1 hb2 hs2 hB2 (hk2.imp fun _ h => h.elim) ?_
    clear hk2 hs2 hb2 hB2 hB1 hs1 hb1 w2 w1
    refine ol_nil (hQ.fall rvs0 (fun _ _ h => h) fun w hb hs hB hkd => ?_)
    exact ⟨_, rfl, hb, hs.sub (subH_same rfl (subH_same rfl (subH_same rfl (subH_same rfl (subH_same rfl (subH_same rfl (subH_same rfl (subH_same rfl (subH_same rfl (subH_same rfl (subH_same rfl subH_nil))))))))))), hB, hkd, by rw [hg, rot_eq (by omega), hF]⟩

theorem insertion_w (cf : Int → Int → Int) (Good : Int → Prop) (B : Nat) (cb : Nat) (a : Option Addr) (n c : Nat) (e1 e2 e3 e4 e5 e6 e7 e8 e9 e10 : Ent) (f : Nat → Int) (p q : Nat) (w : World) (hw : Swo (ltC cf)) (hB : B ≤ w.heap.size) (hn : n ≤ 1000000) (h1 : q ≤ n) (hp : p ≤ n) (hG : ∀ i, i < n → Good (f i)) (hu : ∀ x y, p ≤ x → x < y → y < q → f x < f y) (hcmp : ∀ (w1 : World) (x y : Int), Good x → Good y → Sat B w1 [(5001, e1), (5002, e2)] → B ≤ w1.heap.size → Calls Try.prog 104 #[.int .i64 x, .int .i64 y, .pointer (some ⟨cb, 0, none⟩)] w1 fun e w' => e = .returned (.int .i64 (cf x y)) ∧ Below w1.heap.size w1 w') (hs : Sat B w [(5000, .row a n c (encI.enc (tab n f)) 3 1), (5001, e1), (5002, e2), (5003, e3), (5004, e4), (5005, e5), (5006, e6), (5007, e7), (5008, e8), (5009, e9), (5010, e10)]) :
    Calls Try.prog 145 #[.slice a n c, .int .i64 p, .int .i64 q, .func (.func 104) #[] #[.pointer (some ⟨cb, 0, none⟩)]] w fun e w' => ∃ g, e = .returned (.tuple #[]) ∧ Below B w w' ∧ Sat B w' [(5000, .row a n c (encI.enc (tab n g)) 3 1), (5001, e1), (5002, e2), (5003, e3), (5004, e4), (5005, e5), (5006, e6), (5007, e7), (5008, e8), (5009, e9), (5010, e10)] ∧ B ≤ w'.heap.size ∧ Kd (fun _ => False) w w' ∧ Blo (ltC cf) f g p q := by

  refine enterQ (N := 53) (C := fun _ => False) (H := [(5000, .row a n c (encI.enc (tab n f)) 3 1), (5001, e1), (5002, e2), (5003, e3), (5004, e4), (5005, e5), (5006, e6), (5007, e7), (5008, e8), (5009, e9), (5010, e10)]) (B := B) (args := [_, _, _, _]) Try.func145 rfl rfl rfl (hB) (hs) fun Q hQ => ?_
  refine wp_seq' fun K1 hK1 => ?_
  refine wp_reg ?_
  refine ol_r (r_move rfl) rfl ?_
  refine ol_r (r_addT (p + 1) rfl rfl (by omega) (by omega)) rfl ?_
  refine ol_r (r_assign rfl) rfl ?_
  refine ol_nil (to_k0 (fun _ _ h => h) (hK1 _ _ _ _ _ ?_))
  clear hK1
  refine wp_block' ?_
  apply wp_loopM (σ := Nat × (Nat → Int)) (fun s => p < s.1 ∧ (s.1 ≤ q ∨ s.1 = p + 1) ∧ SoR (ltC cf) s.2 p s.1 ∧ SaS f s.2 p s.1 ∧ (∀ x, x < p ∨ s.1 ≤ x → s.2 x = f x)) (fun s => [(8, .int .i64 s.1)]) [(0, _), (1, _), (2, _), (3, _)] (fun s => [(5000, .row a n c (encI.enc (tab n s.2)) 3 1)]) [(5001, _), (5002, _), (5003, _), (5004, _), (5005, _), (5006, _), (5007, _), (5008, _), (5009, _), (5010, _)] (fun s => q - s.1) ((p + 1, f))
  ·try dsimp only
   exact ⟨by omega, .inr rfl, fun x y h2 h3 h4 => by omega, SaS.refl _ _ _, fun _ _ => rfl⟩
  ·exact (sub_cons rfl sub_nil)
  ·exact (sub_cons rfl (sub_cons rfl (sub_cons rfl (sub_cons rfl sub_nil))))
  ·exact (subH_row rfl (by rfl) subH_nil)
  ·exact (subH_same rfl (subH_same rfl (subH_same rfl (subH_same rfl (subH_same rfl (subH_same rfl (subH_same rfl (subH_same rfl (subH_same rfl (subH_same rfl subH_nil))))))))))
  ·rintro ⟨i, F⟩ ⟨hi, hi2, hF1, hF2, hF3⟩
   dsimp only at hi hi2 hF1 hF2 hF3 ⊢
   intro K2 hK2
   refine wp_seq' fun K3 hK3 => ?_
   refine wp_seq' fun K4 hK4 => ?_
   refine wp_reg ?_
   refine ol_r (r_move rfl) rfl ?_
   refine ol_r (r_move rfl) rfl ?_
   refine ol_r (r_lss rfl rfl) rfl ?_
   refine ol_nil (to_k0 (fun _ _ h => h) (hK4 _ _ _ _ _ ?_))
   clear hK4
   refine wp_condD rfl (fun hc14 => ?_) (fun hc14 => ?_)
   ·refine wp_skip' (to_k0 (fun _ _ h => h) (hK3 _ _ _ _ _ ?_))
    clear hK3
    refine wp_seq' fun K5 hK5 => ?_
    refine wp_block' ?_
    refine wp_seq' fun K6 hK6 => ?_
    refine wp_reg ?_
    refine ol_r (r_move rfl) rfl ?_
    refine ol_r (r_assign rfl) rfl ?_
    refine ol_nil (to_k0 (fun _ _ h => h) (hK6 _ _ _ _ _ ?_))
    clear hK6
    refine wp_block' ?_
    apply wp_loopM (σ := Nat × (Nat → Int)) (fun s => p ≤ s.1 ∧ s.1 ≤ i ∧ InsI (ltC cf) F s.2 p i s.1) (fun s => [(9, .int .i64 s.1)]) [(0, _), (1, _), (2, _), (3, _), (8, _)] (fun s => [(5000, .row a n c (encI.enc (tab n s.2)) 3 1)]) [(5001, _), (5002, _), (5003, _), (5004, _), (5005, _), (5006, _), (5007, _), (5008, _), (5009, _), (5010, _)] (fun s => s.1) ((i, F))
    ·try dsimp only
     refine ⟨by omega, Nat.le_refl _, InsI.start hF1 fun x h2 h3 => ?_⟩
     obtain ⟨y, y1, y2, y3⟩ := hF2.2 x h2 h3
     rw [y3, hF3 i (by omega)]
     exact hu y i y1 y2 (by omega)
    ·exact (sub_cons rfl sub_nil)
    ·exact (sub_cons rfl (sub_cons rfl (sub_cons rfl (sub_cons rfl (sub_cons rfl sub_nil)))))
    ·exact (subH_row rfl (by rfl) subH_nil)
    ·exact (subH_same rfl (subH_same rfl (subH_same rfl (subH_same rfl (subH_same rfl (subH_same rfl (subH_same rfl (subH_same rfl (subH_same rfl (subH_same rfl subH_nil))))))))))
    ·rintro ⟨j, G⟩ ⟨hj1, hj2, hI⟩
     dsimp only at hj1 hj2 hI ⊢
     have hGl := tab_len n G
     have hF2s : SaS f F p (i + 1) := hF2.widen (Nat.le_refl _) (Nat.le_succ _) (by omega) hF3
     have hGg : ∀ k, k < n → Good (G k) := good_of hG (((hF2s.trans hI.sa).widen (Nat.zero_le _) (show i + 1 ≤ n by omega) (by omega) fun x hx => by rw [hI.out x (by omega)]; exact hF3 x (by omega)))
     intro K7 hK7
     refine wp_seq' fun K8 hK8 => ?_
     refine wp_seq' fun K9 hK9 => ?_
     refine wp_regq (by kernel_rfl) (by kernel_rfl) ?_
     refine ql_r (r_move rfl) rfl ?_
     refine ql_r (r_move rfl) rfl ?_
     refine ql_r (r_gtr rfl rfl) rfl ?_
     refine ql_r (r_move rfl) rfl ?_
     refine ql_split (d := 21) rfl (fun hs21 => ?_) (fun hs21 => ?_)
     ·have phs21 := hs21; try simp only [decide_eq_true_eq, decide_eq_false_iff_not, Bool.not_eq_true', Bool.not_eq_false', Bool.not_true, Bool.not_false] at phs21
      refine ql_g rfl rfl hs21 ?_
      refine ql_r (r_move rfl) rfl ?_
      refine ql_g rfl rfl hs21 ?_
      refine ql_r (r_move rfl) rfl ?_
      refine ql_g rfl rfl hs21 ?_
      refine ql_r (r_move rfl) rfl ?_
      refine ql_g rfl rfl hs21 ?_
      refine ql_ixo (id := 5000) encI _ rfl rfl rfl rfl sl150 (by omega) (by omega) rfl fun x25 hx25 => ?_
      try simp only [Int.toNat_natCast] at hx25
      try simp only [Int.toNat_natCast] at hx25
      refine ql_g rfl rfl hs21 ?_
      refine ql_r (r_ldw rfl (fun w1 hb1 hs1 hB1 => show Loads _ _ _ _ (.int .i64 x25) from ld_own (id := 5000) hs1 rfl rfl ty3 hx25)) rfl ?_
      refine ql_g rfl rfl hs21 ?_
      refine ql_r (r_move rfl) rfl ?_
      refine ql_g rfl rfl hs21 ?_
      refine ql_r (r_move rfl) rfl ?_
      refine ql_g rfl rfl hs21 ?_
      refine ql_r (r_sub rfl rfl (by omega)) rfl ?_
      refine ql_g rfl rfl hs21 ?_
      refine ql_ixo (id := 5000) encI _ rfl rfl rfl rfl sl150 (by omega) (by omega) rfl fun x30 hx30 => ?_
      try simp only [Int.toNat_natCast] at hx30
      try simp only [Int.toNat_natCast] at hx30
      refine ql_g rfl rfl hs21 ?_
      refine ql_r (r_ldw rfl (fun w1 hb1 hs1 hB1 => show Loads _ _ _ _ (.int .i64 x30) from ld_own (id := 5000) hs1 rfl rfl ty3 hx30)) rfl ?_
      refine ql_g rfl rfl hs21 ?_
      have hx25' := hx25
      have hx30' := hx30
      rw [show (((j : Nat) : Int) - 1).toNat = j - 1 by omega] at hx30'
      refine ql_call rfl rfl cb104 rfl (fun w1 hb1 hs1 hB1 => hcmp _ _ _ (by rw [← tab_eq hx25]; exact hGg _ (by omega)) (by rw [← tab_eq hx30]; exact hGg _ (by omega)) (hs1.sub (subH_same rfl (subH_same rfl subH_nil))) hB1) ?_
      refine ql_g rfl rfl hs21 ?_
      refine ql_r (r_lss rfl rfl) rfl ?_
      refine ql_r (r_pickT rfl hs21 rfl) rfl ?_
      refine ql_nil (to_k0 (fun _ _ h => h) (hK9 _ _ _ _ _ ?_))
      clear hK9
      refine wp_condD rfl (fun hc34 => ?_) (fun hc34 => ?_)
      ·refine wp_skip' (to_k0 (fun _ _ h => h) (hK8 _ _ _ _ _ ?_))
       clear hK8
       refine wp_seq' fun K10 hK10 => ?_
       refine wp_block' ?_
       refine wp_rega [(999, [(5001, _), (5002, _), (5003, _), (5004, _), (5005, _), (5006, _), (5007, _), (5008, _), (5009, _), (5010, _)]), (15, [(5000, _)])] (by kernel_rfl) ⟨.inr (subH_same rfl (subH_same rfl (subH_same rfl (subH_same rfl (subH_same rfl (subH_same rfl (subH_same rfl (subH_same rfl (subH_same rfl (subH_same rfl subH_nil)))))))))), ⟨.inr (subH_same rfl subH_nil), trivial⟩⟩ ?_
       refine aq_r 0 999 rfl (by kernel_rfl) (by kernel_rfl) (by kernel_rfl) (.head _) (by kernel_rfl) (by kernel_rfl) rfl (r_move rfl) ?_
       refine aq_r 1 999 rfl (by kernel_rfl) (by kernel_rfl) (by kernel_rfl) (.head _) (by kernel_rfl) (by kernel_rfl) rfl (r_move rfl) ?_
       refine aq_r 2 999 rfl (by kernel_rfl) (by kernel_rfl) (by kernel_rfl) (.head _) (by kernel_rfl) (by kernel_rfl) rfl (r_move rfl) ?_
       refine aq_r 3 999 rfl (by kernel_rfl) (by kernel_rfl) (by kernel_rfl) (.head _) (by kernel_rfl) (by kernel_rfl) rfl (r_move rfl) ?_
       refine aq_r 4 999 rfl (by kernel_rfl) (by kernel_rfl) (by kernel_rfl) (.head _) (by kernel_rfl) (by kernel_rfl) rfl (r_sub rfl rfl (by omega)) ?_
       refine aq_r 5 999 rfl (by kernel_rfl) (by kernel_rfl) (by kernel_rfl) (.head _) (by kernel_rfl) (by kernel_rfl) rfl (r_move rfl) ?_
       refine aq_r 6 999 rfl (by kernel_rfl) (by kernel_rfl) (by kernel_rfl) (.head _) (by kernel_rfl) (by kernel_rfl) rfl (r_move rfl) ?_
       refine aq_r 7 999 rfl (by kernel_rfl) (by kernel_rfl) (by kernel_rfl) (.head _) (by kernel_rfl) (by kernel_rfl) rfl (r_sub rfl rfl (by omega)) ?_
       refine aq_ixo 8 15 rfl (by kernel_rfl) (by kernel_rfl) (by kernel_rfl) (.tail _ (.head _)) (by kernel_rfl) (by kernel_rfl) rfl (id := 5000) encI _ rfl rfl rfl rfl sl150 (by omega) (by omega) fun x45 hx45 => ?_
       try simp only [Int.toNat_natCast] at hx45
       try simp only [Int.toNat_natCast] at hx45
       refine aq_r 9 15 rfl (by kernel_rfl) (by kernel_rfl) (by kernel_rfl) (.tail _ (.head _)) (by kernel_rfl) (by kernel_rfl) rfl (r_ldw rfl (fun w1 hb1 hs1 hB1 => show Loads _ _ _ _ (.int .i64 x45) from ld_own (id := 5000) hs1 rfl rfl ty3 hx45)) ?_
       refine aq_r 10 999 rfl (by kernel_rfl) (by kernel_rfl) (by kernel_rfl) (.head _) (by kernel_rfl) (by kernel_rfl) rfl (r_move rfl) ?_
       refine aq_r 11 999 rfl (by kernel_rfl) (by kernel_rfl) (by kernel_rfl) (.head _) (by kernel_rfl) (by kernel_rfl) rfl (r_move rfl) ?_
       refine aq_one (i := 12) (by kernel_rfl) rfl fun K11 hK11 => ?_
       refine ol_ixo (id := 5000) encI _ rfl rfl rfl rfl sl150 (by omega) rfl fun x49 hx49 => ?_
       try simp only [Int.toNat_natCast] at hx49
       try simp only [Int.toNat_natCast] at hx49
       refine ol_nil (to_k0 (fun _ _ h => h) (hK11 _ _ ⟨.inr (by repeat' first | exact subH_nil | refine subH_same rfl ?_ | (refine subH_blk rfl (by repeat' first | exact sub_nil | refine sub_cons rfl ?_) ?_)), ⟨.inr (by repeat' first | exact subH_nil | refine subH_same rfl ?_ | (refine subH_blk rfl (by repeat' first | exact sub_nil | refine sub_cons rfl ?_) ?_)), trivial⟩⟩ ?_))
       clear hK11
       refine aq_r 13 15 rfl (by kernel_rfl) (by kernel_rfl) (by kernel_rfl) (.tail _ (.head _)) (by kernel_rfl) (by kernel_rfl) rfl (r_ldw rfl (fun w1 hb1 hs1 hB1 => show Loads _ _ _ _ (.int .i64 x49) from ld_own (id := 5000) hs1 rfl rfl ty3 hx49)) ?_
       refine aq_ixo 14 15 rfl (by kernel_rfl) (by kernel_rfl) (by kernel_rfl) (.tail _ (.head _)) (by kernel_rfl) (by kernel_rfl) rfl (id := 5000) encI _ rfl rfl rfl rfl sl150 (by omega) (by omega) fun x51 hx51 => ?_
       try simp only [Int.toNat_natCast] at hx51
       try simp only [Int.toNat_natCast] at hx51
       refine aq_one (i := 15) (by kernel_rfl) rfl fun K12 hK12 => ?_
       refine ol_storeRow (id := 5000) _ _ _ rfl rfl rfl rfl sz3 (by omega) ?_
       refine ol_nil (to_k0 (fun _ _ h => h) (hK12 _ _ ⟨.inr (by repeat' first | exact subH_nil | refine subH_same rfl ?_ | (refine subH_blk rfl (by repeat' first | exact sub_nil | refine sub_cons rfl ?_) ?_)), ⟨.inl (by kernel_rfl), trivial⟩⟩ ?_))
       clear hK12
       refine aq_one (i := 16) (by kernel_rfl) rfl fun K13 hK13 => ?_
       refine ol_ixo (id := 5000) encI _ rfl rfl rfl rfl sl150 (by omega) rfl fun x52 hx52 => ?_
       try simp only [Int.toNat_natCast] at hx52
       try simp only [Int.toNat_natCast] at hx52
       refine ol_nil (to_k0 (fun _ _ h => h) (hK13 _ _ ⟨.inr (by repeat' first | exact subH_nil | refine subH_same rfl ?_ | (refine subH_blk rfl (by repeat' first | exact sub_nil | refine sub_cons rfl ?_) ?_)), ⟨.inl (by kernel_rfl), trivial⟩⟩ ?_))
       clear hK13
       refine aq_one (i := 17) (by kernel_rfl) rfl fun K14 hK14 => ?_
       refine ol_storeRow (id := 5000) _ _ _ rfl rfl rfl rfl sz3 (by omega) ?_
       refine ol_nil (to_k0 (fun _ _ h => h) (hK14 _ _ ⟨.inr (by repeat' first | exact subH_nil | refine subH_same rfl ?_ | (refine subH_blk rfl (by repeat' first | exact sub_nil | refine sub_cons rfl ?_) ?_)), ⟨.inl (by kernel_rfl), trivial⟩⟩ ?_))
       clear hK14
       refine aq_done (by kernel_rfl) ?_
       refine (to_k0 (fun _ _ h => h) (hK10 _ _ _ _ _ ?_))
       clear hK10
       refine wp_reg ?_
       refine ol_r (r_move rfl) rfl ?_
       refine ol_r (r_subT (j - 1) rfl rfl (by omega) (by omega)) rfl ?_
       refine ol_r (r_assign rfl) rfl ?_
       refine ol_nil (to_k0 (fun _ _ h => h) (hK7 ((_, sw2 G j (j - 1))) _ _ ?_ ?_ (sub_cons rfl sub_nil) (sub_cons rfl (sub_cons rfl (sub_cons rfl (sub_cons rfl (sub_cons rfl sub_nil))))) (by exact (subH_row rfl (by dsimp only; (rw [sw_row (i := j) (j := j - 1) (by omega) (by omega) ⟨_, by omega, hx45⟩ ⟨_, by omega, hx49⟩])) subH_nil)) (subH_same rfl (subH_same rfl (subH_same rfl (subH_same rfl (subH_same rfl (subH_same rfl (subH_same rfl (subH_same rfl (subH_same rfl (subH_same rfl subH_nil))))))))))))
       ·try dsimp only
        exact ⟨by omega, by omega, hI.step (by omega) hj2 (ltC_t (by rw [tab_eq hx25', tab_eq hx30']; exact hc34))⟩
       ·try dsimp only
        omega
      ·refine wp_exit' (to_k0 (fun _ _ h => h) (hK5 _ _ _ _ _ ?_))
       clear hK5
       refine wp_reg ?_
       refine ol_r (r_move rfl) rfl ?_
       refine ol_r (r_addT (i + 1) rfl rfl (by omega) (by omega)) rfl ?_
       refine ol_r (r_assign rfl) rfl ?_
       refine ol_nil (to_k0 (fun _ _ h => h) (hK2 ((_, _)) _ _ ?_ ?_ (sub_cons rfl sub_nil) (sub_cons rfl (sub_cons rfl (sub_cons rfl (sub_cons rfl sub_nil)))) (by exact (subH_row rfl (by rfl) subH_nil)) (subH_same rfl (subH_same rfl (subH_same rfl (subH_same rfl (subH_same rfl (subH_same rfl (subH_same rfl (subH_same rfl (subH_same rfl (subH_same rfl subH_nil))))))))))))
       ·try dsimp only
        exact ⟨by omega, by omega, hI.stop hw hj1 hj2 (by first | exact .inl (by omega) | exact .inr (ltC_f (by rw [tab_eq hx25', tab_eq hx30']; exact hc34))), hF2s.trans hI.sa, fun x hx => by rw [hI.out x (by omega)]; exact hF3 x (by omega)⟩
       ·try dsimp only
        omega
     ·have phs21 := hs21; try simp only [decide_eq_true_eq, decide_eq_false_iff_not, Bool.not_eq_true', Bool.not_eq_false', Bool.not_true, Bool.not_false] at phs21
      refine ql_s rfl rfl hs21 rfl ?_
      refine ql_s rfl rfl hs21 rfl ?_
      refine ql_s rfl rfl hs21 rfl ?_
      refine ql_s rfl rfl hs21 rfl ?_
      refine ql_s rfl rfl hs21 rfl ?_
      refine ql_s rfl rfl hs21 rfl ?_
      refine ql_s rfl rfl hs21 rfl ?_
      refine ql_s rfl rfl hs21 rfl ?_
      refine ql_s rfl rfl hs21 rfl ?_
      refine ql_s rfl rfl hs21 rfl ?_
      refine ql_s rfl rfl hs21 rfl ?_
      refine ql_s rfl rfl hs21 rfl ?_
      refine ql_r (r_pickF rfl hs21 rfl) rfl ?_
      refine ql_nil (to_k0 (fun _ _ h => h) (hK9 _ _ _ _ _ ?_))
      clear hK9
      refine wp_condF rfl ?_
      refine wp_exit' (to_k0 (fun _ _ h => h) (hK5 _ _ _ _ _ ?_))
      clear hK5
      refine wp_reg ?_
      refine ol_r (r_move rfl) rfl ?_
      refine ol_r (r_addT (i + 1) rfl rfl (by omega) (by omega)) rfl ?_
      refine ol_r (r_assign rfl) rfl ?_
      refine ol_nil (to_k0 (fun _ _ h => h) (hK2 ((_, _)) _ _ ?_ ?_ (sub_cons rfl sub_nil) (sub_cons rfl (sub_cons rfl (sub_cons rfl (sub_cons rfl sub_nil)))) (by exact (subH_row rfl (by rfl) subH_nil)) (subH_same rfl (subH_same rfl (subH_same rfl (subH_same rfl (subH_same rfl (subH_same rfl (subH_same rfl (subH_same rfl (subH_same rfl (subH_same rfl subH_nil))))))))))))
      ·try dsimp only
       exact ⟨by omega, by omega, hI.stop hw hj1 hj2 (by first | exact .inl (by omega) | exact .inr (ltC_f (by rw [tab_eq hx25', tab_eq hx30']; exact hc34))), hF2s.trans hI.sa, fun x hx => by rw [hI.out x (by omega)]; exact hF3 x (by omega)⟩
      ·try dsimp only
       omega
   ·refine wp_exit' (hQ.fall rvs0 (fun _ _ h => h) fun w hb hs hB hkd => ?_)
    refine ⟨F, rfl, hb, hs.sub (subH_same rfl (subH_same rfl (subH_same rfl (subH_same rfl (subH_same rfl (subH_same rfl (subH_same rfl (subH_same rfl (subH_same rfl (subH_same rfl (subH_same rfl subH_nil))))))))))), hB, hkd, ?_⟩
    rcases hi2 with h | h
    · obtain rfl : i = q := by omega
      exact ⟨hF1, hF2, hF3⟩
    · subst h
      have hFf : F = f := by
        funext x
        by_cases hx : x = p
        · subst hx
          obtain ⟨y, y1, y2, y3⟩ := hF2.2 x (Nat.le_refl _) (by omega)
          rw [y3]; congr 1; omega
        · exact hF3 x (by omega)
      subst hFf
      exact ⟨fun x y h2 h3 h4 => by omega, SaS.refl _ _ _, fun _ _ => rfl⟩

theorem symMerge_w (cf : Int → Int → Int) (Good : Int → Prop) (B : Nat) (cb : Nat) (a : Option Addr) (n c : Nat) (e1 e2 e3 e4 e5 e6 e7 e8 e9 e10 : Ent) (hw : Swo (ltC cf)) (hn : n ≤ 1000000) (hcmp : ∀ (w1 : World) (x y : Int), Good x → Good y → Sat B w1 [(5001, e1), (5002, e2)] → B ≤ w1.heap.size → Calls Try.prog 104 #[.int .i64 x, .int .i64 y, .pointer (some ⟨cb, 0, none⟩)] w1 fun e w' => e = .returned (.int .i64 (cf x y)) ∧ Below w1.heap.size w1 w') : ∀ (N : Nat) (p m q : Nat) (f : Nat → Int) (w : World), q - p ≤ N → B ≤ w.heap.size → p < m → m < q → q ≤ n → (∀ i, i < n → Good (f i)) → MrgI (ltC cf) f p m q → Sat B w [(5000, .row a n c (encI.enc (tab n f)) 3 1), (5001, e1), (5002, e2), (5003, e3), (5004, e4), (5005, e5), (5006, e6), (5007, e7), (5008, e8), (5009, e9), (5010, e10)] →
    Calls Try.prog 146 #[.slice a n c, .int .i64 p, .int .i64 m, .int .i64 q, .func (.func 104) #[] #[.pointer (some ⟨cb, 0, none⟩)]] w fun e w' => ∃ g, e = .returned (.tuple #[]) ∧ Below B w w' ∧ Sat B w' [(5000, .row a n c (encI.enc (tab n g)) 3 1), (5001, e1), (5002, e2), (5003, e3), (5004, e4), (5005, e5), (5006, e6), (5007, e7), (5008, e8), (5009, e9), (5010, e10)] ∧ B ≤ w'.heap.size ∧ Kd (fun _ => False) w w' ∧ Blo (ltC cf) f g p q := by
  intro N
  induction N with
  | zero => intro p m q f w h1 h2 h3 h4; omega
  | succ N ih =>
  intro p m q f w hN hB h1 h2 h3 hG hM hs
  have hfl := tab_len n f

  refine enterQ (N := 220) (C := fun _ => False) (H := [(5000, .row a n c (encI.enc (tab n f)) 3 1), (5001, e1), (5002, e2), (5003, e3), (5004, e4), (5005, e5), (5006, e6), (5007, e7), (5008, e8), (5009, e9), (5010, e10)]) (B := B) (args := [_, _, _, _, _]) Try.func146 rfl rfl rfl (hB) (hs) fun Q hQ => ?_
  refine wp_seq' fun K1 hK1 => ?_
  refine wp_seq' fun K2 hK2 => ?_
  refine wp_reg ?_
  refine ol_r (r_move rfl) rfl ?_
  refine ol_r (r_move rfl) rfl ?_
  refine ol_r (r_sub rfl rfl (by omega)) rfl ?_
  refine ol_r (r_eql rfl rfl) rfl ?_
  refine ol_nil (to_k0 (fun _ _ h => h) (hK2 _ _ _ _ _ ?_))
  clear hK2
  refine wp_condD rfl (fun hc28 => ?_) (fun hc28 => ?_)
  ·refine wp_seq' fun K3 hK3 => ?_
   refine wp_reg ?_
   refine ol_r (r_move rfl) rfl ?_
   refine ol_r (r_assign rfl) rfl ?_
   refine ol_nil (to_k0 (fun _ _ h => h) (hK3 _ _ _ _ _ ?_))
   clear hK3
   refine wp_seq' fun K4 hK4 => ?_
   refine wp_reg ?_
   refine ol_r (r_move rfl) rfl ?_
   refine ol_r (r_assign rfl) rfl ?_
   refine ol_nil (to_k0 (fun _ _ h => h) (hK4 _ _ _ _ _ ?_))
   clear hK4
   refine wp_seq' fun K5 hK5 => ?_
   refine wp_block' ?_
   apply wp_loopM (σ := Nat × Nat) (fun s => m ≤ s.1 ∧ s.1 ≤ s.2 ∧ s.2 ≤ q ∧ (∀ x, m ≤ x → x < s.1 → ltC cf (f x) (f p) = true) ∧ (∀ x, s.2 ≤ x → x < q → ltC cf (f x) (f p) = false)) (fun s => [(10, .int .i64 s.1), (11, .int .i64 s.2)]) [(0, _), (1, _), (2, _), (3, _), (4, _)] (fun s => []) [(5000, _), (5001, _), (5002, _), (5003, _), (5004, _), (5005, _), (5006, _), (5007, _), (5008, _), (5009, _), (5010, _)] (fun s => s.2 - s.1) ((m, q))
   ·try dsimp only
    exact ⟨Nat.le_refl _, by omega, Nat.le_refl _, fun x h4 h5 => by omega, fun x h4 h5 => by omega⟩
   ·exact (sub_cons rfl (sub_cons rfl sub_nil))
   ·exact (sub_cons rfl (sub_cons rfl (sub_cons rfl (sub_cons rfl (sub_cons rfl sub_nil)))))
   ·exact subH_nil
   ·exact (subH_same rfl (subH_same rfl (subH_same rfl (subH_same rfl (subH_same rfl (subH_same rfl (subH_same rfl (subH_same rfl (subH_same rfl (subH_same rfl (subH_same rfl subH_nil)))))))))))
   ·rintro ⟨i, j⟩ ⟨hi, hij, hj, hlo, hhi⟩
    dsimp only at hi hij hj hlo hhi ⊢
    intro K6 hK6
    refine wp_seq' fun K7 hK7 => ?_
    refine wp_seq' fun K8 hK8 => ?_
    refine wp_reg ?_
    refine ol_r (r_move rfl) rfl ?_
    refine ol_r (r_move rfl) rfl ?_
    refine ol_r (r_lss rfl rfl) rfl ?_
    refine ol_nil (to_k0 (fun _ _ h => h) (hK8 _ _ _ _ _ ?_))
    clear hK8
    refine wp_condD rfl (fun hc33 => ?_) (fun hc33 => ?_)
    ·refine wp_skip' (to_k0 (fun _ _ h => h) (hK7 _ _ _ _ _ ?_))
     clear hK7
     refine wp_block' ?_
     refine wp_seq' fun K9 hK9 => ?_
     refine wp_reg ?_
     refine ol_r (r_move rfl) rfl ?_
     refine ol_r (r_move rfl) rfl ?_
     refine ol_r (r_add rfl rfl (by omega)) rfl ?_
     refine ol_r (r_conv (k2 := .u64) rfl (by kernel_rfl) (by kernel_rfl) (wrap_u64 (by omega))) rfl ?_
     refine ol_r (r_shr1 rfl rfl) rfl ?_
     refine ol_r (r_conv (k2 := .i64) rfl (by kernel_rfl) (by kernel_rfl) (IntWalk.i64_in _ (by omega))) rfl ?_
     obtain ⟨h, hh⟩ : ∃ h : Nat, ((i : Int) + (j : Int)) / 2 = h := ⟨(i + j) / 2, by omega⟩
     rw [hh]
     refine ol_r (r_assign rfl) rfl ?_
     refine ol_nil (to_k0 (fun _ _ h => h) (hK9 _ _ _ _ _ ?_))
     clear hK9
     refine wp_seq' fun K10 hK10 => ?_
     refine wp_regq (by kernel_rfl) (by kernel_rfl) ?_
     refine ql_r (r_move rfl) rfl ?_
     refine ql_r (r_move rfl) rfl ?_
     refine ql_r (r_move rfl) rfl ?_
     refine ql_ixo (id := 5000) encI _ rfl rfl rfl rfl sl150 (by omega) (by omega) rfl fun x43 hx43 => ?_
     try simp only [Int.toNat_natCast] at hx43
     try simp only [Int.toNat_natCast] at hx43
     refine ql_r (r_ldw rfl (fun w1 hb1 hs1 hB1 => show Loads _ _ _ _ (.int .i64 x43) from ld_own (id := 5000) hs1 rfl rfl ty3 hx43)) rfl ?_
     refine ql_r (r_move rfl) rfl ?_
     refine ql_r (r_move rfl) rfl ?_
     refine ql_ixo (id := 5000) encI _ rfl rfl rfl rfl sl150 (by omega) (by omega) rfl fun x47 hx47 => ?_
     try simp only [Int.toNat_natCast] at hx47
     try simp only [Int.toNat_natCast] at hx47
     refine ql_r (r_ldw rfl (fun w1 hb1 hs1 hB1 => show Loads _ _ _ _ (.int .i64 x47) from ld_own (id := 5000) hs1 rfl rfl ty3 hx47)) rfl ?_
     refine ql_call rfl rfl cb104 rfl (fun w1 hb1 hs1 hB1 => hcmp _ _ _ (by rw [← tab_eq hx43]; exact hG _ (by omega)) (by rw [← tab_eq hx47]; exact hG _ (by omega)) (hs1.sub (subH_same rfl (subH_same rfl subH_nil))) hB1) ?_
     refine ql_r (r_lss rfl rfl) rfl ?_
     refine ql_nil (to_k0 (fun _ _ h => h) (hK10 _ _ _ _ _ ?_))
     clear hK10
     refine wp_condD rfl (fun hc50 => ?_) (fun hc50 => ?_)
     ·refine wp_reg ?_
      refine ol_r (r_move rfl) rfl ?_
      refine ol_r (r_addT (h + 1) rfl rfl (by omega) (by omega)) rfl ?_
      refine ol_r (r_assign rfl) rfl ?_
      refine ol_nil (to_k0 (fun _ _ h => h) (hK6 ((_, _)) _ _ ?_ ?_ (sub_cons rfl (sub_cons rfl sub_nil)) (sub_cons rfl (sub_cons rfl (sub_cons rfl (sub_cons rfl (sub_cons rfl sub_nil))))) (by exact subH_nil) (subH_same rfl (subH_same rfl (subH_same rfl (subH_same rfl (subH_same rfl (subH_same rfl (subH_same rfl (subH_same rfl (subH_same rfl (subH_same rfl (subH_same rfl subH_nil)))))))))))))
      ·try dsimp only
       first
         | exact ⟨by omega, by omega, by omega, fun x x1 x2 => by
             have hc : ltC cf (f h) (f p) = true := ltC_t (by rw [tab_eq hx43, tab_eq hx47]; exact hc50)
             by_cases hx : x = h
             · rw [hx]; exact hc
             · exact RR.lt_left hw (hM.r x h x1 (by omega) (by omega)) hc, hhi⟩
      ·try dsimp only
       omega
     ·refine wp_reg ?_
      refine ol_r (r_move rfl) rfl ?_
      refine ol_r (r_assign rfl) rfl ?_
      refine ol_nil (to_k0 (fun _ _ h => h) (hK6 ((_, _)) _ _ ?_ ?_ (sub_cons rfl (sub_cons rfl sub_nil)) (sub_cons rfl (sub_cons rfl (sub_cons rfl (sub_cons rfl (sub_cons rfl sub_nil))))) (by exact subH_nil) (subH_same rfl (subH_same rfl (subH_same rfl (subH_same rfl (subH_same rfl (subH_same rfl (subH_same rfl (subH_same rfl (subH_same rfl (subH_same rfl (subH_same rfl subH_nil)))))))))))))
      ·try dsimp only
       first
         | exact ⟨by omega, by omega, by omega, hlo, fun x x1 x2 => by
             have hc : ltC cf (f h) (f p) = false := ltC_f (by rw [tab_eq hx43, tab_eq hx47]; exact hc50)
             by_cases hx : x = h
             · rw [hx]; exact hc
             · cases h9 : ltC cf (f x) (f p) with
               | false => rfl
               | true => have := RR.lt_left hw (hM.r h x (by omega) (by omega) x2) h9; rw [hc] at this; cases this⟩
      ·try dsimp only
       omega
    ·refine wp_exit' (to_k0 (fun _ _ h => h) (hK5 _ _ _ _ _ ?_))
     clear hK5
     refine wp_seq' fun K11 hK11 => ?_
     refine wp_seq' fun K12 hK12 => ?_
     refine wp_reg ?_
     obtain rfl : i = j := by omega
     refine ol_r (r_move rfl) rfl ?_
     refine ol_r (r_assign rfl) rfl ?_
     refine ol_nil (to_k0 (fun _ _ h => h) (hK12 _ _ _ _ _ ?_))
     clear hK12
     refine wp_block' ?_
     apply wp_loopM (σ := Nat) (fun s => p ≤ s ∧ s ≤ i - 1) (fun s => [(13, .int .i64 s)]) [(0, _), (1, _), (2, _), (3, _), (4, _), (10, _)] (fun s => [(5000, .row a n c (encI.enc (tab n (mvR f p s))) 3 1)]) [(5001, _), (5002, _), (5003, _), (5004, _), (5005, _), (5006, _), (5007, _), (5008, _), (5009, _), (5010, _)] (fun s => i - s) (p)
     ·try dsimp only
      exact ⟨Nat.le_refl _, by omega⟩
     ·exact (sub_cons rfl sub_nil)
     ·exact (sub_cons rfl (sub_cons rfl (sub_cons rfl (sub_cons rfl (sub_cons rfl (sub_cons rfl sub_nil))))))
     ·exact (subH_row rfl (by rw [mvR_start]) subH_nil)
     ·exact (subH_same rfl (subH_same rfl (subH_same rfl (subH_same rfl (subH_same rfl (subH_same rfl (subH_same rfl (subH_same rfl (subH_same rfl (subH_same rfl subH_nil))))))))))
     ·rintro k ⟨hk1, hk2⟩
      have hFl := tab_len n (mvR f p k)
      intro K13 hK13
      refine wp_seq' fun K14 hK14 => ?_
      refine wp_seq' fun K15 hK15 => ?_
      refine wp_reg ?_
      refine ol_r (r_move rfl) rfl ?_
      refine ol_r (r_move rfl) rfl ?_
      refine ol_r (r_sub rfl rfl (by omega)) rfl ?_
      refine ol_r (r_lss rfl rfl) rfl ?_
      refine ol_nil (to_k0 (fun _ _ h => h) (hK15 _ _ _ _ _ ?_))
      clear hK15
      refine wp_condD rfl (fun hc58 => ?_) (fun hc58 => ?_)
      ·refine wp_skip' (to_k0 (fun _ _ h => h) (hK14 _ _ _ _ _ ?_))
       clear hK14
       refine wp_seq' fun K16 hK16 => ?_
       refine wp_block' ?_
       refine wp_rega [(999, [(5001, _), (5002, _), (5003, _), (5004, _), (5005, _), (5006, _), (5007, _), (5008, _), (5009, _), (5010, _)]), (15, [(5000, _)])] (by kernel_rfl) ⟨.inr (subH_same rfl (subH_same rfl (subH_same rfl (subH_same rfl (subH_same rfl (subH_same rfl (subH_same rfl (subH_same rfl (subH_same rfl (subH_same rfl subH_nil)))))))))), ⟨.inr (subH_same rfl subH_nil), trivial⟩⟩ ?_
       refine aq_r 0 999 rfl (by kernel_rfl) (by kernel_rfl) (by kernel_rfl) (.head _) (by kernel_rfl) (by kernel_rfl) rfl (r_move rfl) ?_
       refine aq_r 1 999 rfl (by kernel_rfl) (by kernel_rfl) (by kernel_rfl) (.head _) (by kernel_rfl) (by kernel_rfl) rfl (r_move rfl) ?_
       refine aq_r 2 999 rfl (by kernel_rfl) (by kernel_rfl) (by kernel_rfl) (.head _) (by kernel_rfl) (by kernel_rfl) rfl (r_move rfl) ?_
       refine aq_r 3 999 rfl (by kernel_rfl) (by kernel_rfl) (by kernel_rfl) (.head _) (by kernel_rfl) (by kernel_rfl) rfl (r_move rfl) ?_
       refine aq_r 4 999 rfl (by kernel_rfl) (by kernel_rfl) (by kernel_rfl) (.head _) (by kernel_rfl) (by kernel_rfl) rfl (r_add rfl rfl (by omega)) ?_
       refine aq_r 5 999 rfl (by kernel_rfl) (by kernel_rfl) (by kernel_rfl) (.head _) (by kernel_rfl) (by kernel_rfl) rfl (r_move rfl) ?_
       refine aq_r 6 999 rfl (by kernel_rfl) (by kernel_rfl) (by kernel_rfl) (.head _) (by kernel_rfl) (by kernel_rfl) rfl (r_move rfl) ?_
       refine aq_r 7 999 rfl (by kernel_rfl) (by kernel_rfl) (by kernel_rfl) (.head _) (by kernel_rfl) (by kernel_rfl) rfl (r_add rfl rfl (by omega)) ?_
       refine aq_ixo 8 15 rfl (by kernel_rfl) (by kernel_rfl) (by kernel_rfl) (.tail _ (.head _)) (by kernel_rfl) (by kernel_rfl) rfl (id := 5000) encI _ rfl rfl rfl rfl sl150 (by omega) (by omega) fun x69 hx69 => ?_
       try simp only [Int.toNat_natCast] at hx69
       try simp only [Int.toNat_natCast] at hx69
       refine aq_r 9 15 rfl (by kernel_rfl) (by kernel_rfl) (by kernel_rfl) (.tail _ (.head _)) (by kernel_rfl) (by kernel_rfl) rfl (r_ldw rfl (fun w1 hb1 hs1 hB1 => show Loads _ _ _ _ (.int .i64 x69) from ld_own (id := 5000) hs1 rfl rfl ty3 hx69)) ?_
       refine aq_r 10 999 rfl (by kernel_rfl) (by kernel_rfl) (by kernel_rfl) (.head _) (by kernel_rfl) (by kernel_rfl) rfl (r_move rfl) ?_
       refine aq_r 11 999 rfl (by kernel_rfl) (by kernel_rfl) (by kernel_rfl) (.head _) (by kernel_rfl) (by kernel_rfl) rfl (r_move rfl) ?_
       refine aq_one (i := 12) (by kernel_rfl) rfl fun K17 hK17 => ?_
       refine ol_ixo (id := 5000) encI _ rfl rfl rfl rfl sl150 (by omega) rfl fun x73 hx73 => ?_
       try simp only [Int.toNat_natCast] at hx73
       try simp only [Int.toNat_natCast] at hx73
       refine ol_nil (to_k0 (fun _ _ h => h) (hK17 _ _ ⟨.inr (by repeat' first | exact subH_nil | refine subH_same rfl ?_ | (refine subH_blk rfl (by repeat' first | exact sub_nil | refine sub_cons rfl ?_) ?_)), ⟨.inr (by repeat' first | exact subH_nil | refine subH_same rfl ?_ | (refine subH_blk rfl (by repeat' first | exact sub_nil | refine sub_cons rfl ?_) ?_)), trivial⟩⟩ ?_))
       clear hK17
       refine aq_r 13 15 rfl (by kernel_rfl) (by kernel_rfl) (by kernel_rfl) (.tail _ (.head _)) (by kernel_rfl) (by kernel_rfl) rfl (r_ldw rfl (fun w1 hb1 hs1 hB1 => show Loads _ _ _ _ (.int .i64 x73) from ld_own (id := 5000) hs1 rfl rfl ty3 hx73)) ?_
       refine aq_ixo 14 15 rfl (by kernel_rfl) (by kernel_rfl) (by kernel_rfl) (.tail _ (.head _)) (by kernel_rfl) (by kernel_rfl) rfl (id := 5000) encI _ rfl rfl rfl rfl sl150 (by omega) (by omega) fun x75 hx75 => ?_
       try simp only [Int.toNat_natCast] at hx75
       try simp only [Int.toNat_natCast] at hx75
       refine aq_one (i := 15) (by kernel_rfl) rfl fun K18 hK18 => ?_
       refine ol_storeRow (id := 5000) _ _ _ rfl rfl rfl rfl sz3 (by omega) ?_
       refine ol_nil (to_k0 (fun _ _ h => h) (hK18 _ _ ⟨.inr (by repeat' first | exact subH_nil | refine subH_same rfl ?_ | (refine subH_blk rfl (by repeat' first | exact sub_nil | refine sub_cons rfl ?_) ?_)), ⟨.inl (by kernel_rfl), trivial⟩⟩ ?_))
       clear hK18
       refine aq_one (i := 16) (by kernel_rfl) rfl fun K19 hK19 => ?_
       refine ol_ixo (id := 5000) encI _ rfl rfl rfl rfl sl150 (by omega) rfl fun x76 hx76 => ?_
       try simp only [Int.toNat_natCast] at hx76
       try simp only [Int.toNat_natCast] at hx76
       refine ol_nil (to_k0 (fun _ _ h => h) (hK19 _ _ ⟨.inr (by repeat' first | exact subH_nil | refine subH_same rfl ?_ | (refine subH_blk rfl (by repeat' first | exact sub_nil | refine sub_cons rfl ?_) ?_)), ⟨.inl (by kernel_rfl), trivial⟩⟩ ?_))
       clear hK19
       refine aq_one (i := 17) (by kernel_rfl) rfl fun K20 hK20 => ?_
       refine ol_storeRow (id := 5000) _ _ _ rfl rfl rfl rfl sz3 (by omega) ?_
       refine ol_nil (to_k0 (fun _ _ h => h) (hK20 _ _ ⟨.inr (by repeat' first | exact subH_nil | refine subH_same rfl ?_ | (refine subH_blk rfl (by repeat' first | exact sub_nil | refine sub_cons rfl ?_) ?_)), ⟨.inl (by kernel_rfl), trivial⟩⟩ ?_))
       clear hK20
       refine aq_done (by kernel_rfl) ?_
       refine (to_k0 (fun _ _ h => h) (hK16 _ _ _ _ _ ?_))
       clear hK16
       refine wp_reg ?_
       refine ol_r (r_move rfl) rfl ?_
       refine ol_r (r_addT (k + 1) rfl rfl (by omega) (by omega)) rfl ?_
       refine ol_r (r_assign rfl) rfl ?_
       refine ol_nil (to_k0 (fun _ _ h => h) (hK13 (k + 1) _ _ ?_ ?_ (sub_cons rfl sub_nil) (sub_cons rfl (sub_cons rfl (sub_cons rfl (sub_cons rfl (sub_cons rfl (sub_cons rfl sub_nil)))))) (by exact (subH_row rfl (by (rw [← mvR_step (by omega), sw_row (i := k) (j := k + 1) (by omega) (by omega) ⟨_, by omega, hx69⟩ ⟨_, by omega, hx73⟩])) subH_nil)) (subH_same rfl (subH_same rfl (subH_same rfl (subH_same rfl (subH_same rfl (subH_same rfl (subH_same rfl (subH_same rfl (subH_same rfl (subH_same rfl subH_nil))))))))))))
       ·try dsimp only
        exact ⟨by omega, by omega⟩
       ·try dsimp only
        omega
      ·refine wp_exit' (to_k0 (fun _ _ h => h) (hK11 _ _ _ _ _ ?_))
       clear hK11
       refine hQ.ret rvs0 (fun _ _ h => h) fun w hb hs hB hkd => ?_
       exact ⟨_, rfl, hb, hs.sub (subH_same rfl (subH_same rfl (subH_same rfl (subH_same rfl (subH_same rfl (subH_same rfl (subH_same rfl (subH_same rfl (subH_same rfl (subH_same rfl (subH_same rfl subH_nil))))))))))), hB, hkd, by
         obtain rfl : k = i - 1 := by omega
         obtain rfl : m = p + 1 := by omega
         exact mvR_blo hw hM hi hj hlo hhi⟩
  ·refine wp_skip' (to_k0 (fun _ _ h => h) (hK1 _ _ _ _ _ ?_))
   clear hK1
   refine wp_seq' fun K21 hK21 => ?_
   refine wp_seq' fun K22 hK22 => ?_
   refine wp_reg ?_
   refine ol_r (r_move rfl) rfl ?_
   refine ol_r (r_move rfl) rfl ?_
   refine ol_r (r_sub rfl rfl (by omega)) rfl ?_
   refine ol_r (r_eql rfl rfl) rfl ?_
   refine ol_nil (to_k0 (fun _ _ h => h) (hK22 _ _ _ _ _ ?_))
   clear hK22
   refine wp_condD rfl (fun hc80 => ?_) (fun hc80 => ?_)
   ·refine wp_seq' fun K23 hK23 => ?_
    refine wp_reg ?_
    refine ol_r (r_move rfl) rfl ?_
    refine ol_r (r_assign rfl) rfl ?_
    refine ol_nil (to_k0 (fun _ _ h => h) (hK23 _ _ _ _ _ ?_))
    clear hK23
    refine wp_seq' fun K24 hK24 => ?_
    refine wp_reg ?_
    refine ol_r (r_move rfl) rfl ?_
    refine ol_r (r_assign rfl) rfl ?_
    refine ol_nil (to_k0 (fun _ _ h => h) (hK24 _ _ _ _ _ ?_))
    clear hK24
    refine wp_seq' fun K25 hK25 => ?_
    refine wp_block' ?_
    apply wp_loopM (σ := Nat × Nat) (fun s => p ≤ s.1 ∧ s.1 ≤ s.2 ∧ s.2 ≤ m ∧ (∀ x, p ≤ x → x < s.1 → ltC cf (f m) (f x) = false) ∧ (∀ x, s.2 ≤ x → x < m → ltC cf (f m) (f x) = true)) (fun s => [(14, .int .i64 s.1), (15, .int .i64 s.2)]) [(0, _), (1, _), (2, _), (3, _), (4, _)] (fun s => []) [(5000, _), (5001, _), (5002, _), (5003, _), (5004, _), (5005, _), (5006, _), (5007, _), (5008, _), (5009, _), (5010, _)] (fun s => s.2 - s.1) ((p, m))
    ·try dsimp only
     exact ⟨Nat.le_refl _, by omega, Nat.le_refl _, fun x h4 h5 => by omega, fun x h4 h5 => by omega⟩
    ·exact (sub_cons rfl (sub_cons rfl sub_nil))
    ·exact (sub_cons rfl (sub_cons rfl (sub_cons rfl (sub_cons rfl (sub_cons rfl sub_nil)))))
    ·exact subH_nil
    ·exact (subH_same rfl (subH_same rfl (subH_same rfl (subH_same rfl (subH_same rfl (subH_same rfl (subH_same rfl (subH_same rfl (subH_same rfl (subH_same rfl (subH_same rfl subH_nil)))))))))))
    ·rintro ⟨i, j⟩ ⟨hi, hij, hj, hlo, hhi⟩
     dsimp only at hi hij hj hlo hhi ⊢
     intro K26 hK26
     refine wp_seq' fun K27 hK27 => ?_
     refine wp_seq' fun K28 hK28 => ?_
     refine wp_reg ?_
     refine ol_r (r_move rfl) rfl ?_
     refine ol_r (r_move rfl) rfl ?_
     refine ol_r (r_lss rfl rfl) rfl ?_
     refine ol_nil (to_k0 (fun _ _ h => h) (hK28 _ _ _ _ _ ?_))
     clear hK28
     refine wp_condD rfl (fun hc85 => ?_) (fun hc85 => ?_)
     ·refine wp_skip' (to_k0 (fun _ _ h => h) (hK27 _ _ _ _ _ ?_))
      clear hK27
      refine wp_block' ?_
      refine wp_seq' fun K29 hK29 => ?_
      refine wp_reg ?_
      refine ol_r (r_move rfl) rfl ?_
      refine ol_r (r_move rfl) rfl ?_
      refine ol_r (r_add rfl rfl (by omega)) rfl ?_
      refine ol_r (r_conv (k2 := .u64) rfl (by kernel_rfl) (by kernel_rfl) (wrap_u64 (by omega))) rfl ?_
      refine ol_r (r_shr1 rfl rfl) rfl ?_
      refine ol_r (r_conv (k2 := .i64) rfl (by kernel_rfl) (by kernel_rfl) (IntWalk.i64_in _ (by omega))) rfl ?_
      obtain ⟨h, hh⟩ : ∃ h : Nat, ((i : Int) + (j : Int)) / 2 = h := ⟨(i + j) / 2, by omega⟩
      rw [hh]
      refine ol_r (r_assign rfl) rfl ?_
      refine ol_nil (to_k0 (fun _ _ h => h) (hK29 _ _ _ _ _ ?_))
      clear hK29
      refine wp_seq' fun K30 hK30 => ?_
      refine wp_regq (by kernel_rfl) (by kernel_rfl) ?_
      refine ql_r (r_move rfl) rfl ?_
      refine ql_r (r_move rfl) rfl ?_
      refine ql_r (r_move rfl) rfl ?_
      refine ql_ixo (id := 5000) encI _ rfl rfl rfl rfl sl150 (by omega) (by omega) rfl fun x95 hx95 => ?_
      try simp only [Int.toNat_natCast] at hx95
      try simp only [Int.toNat_natCast] at hx95
      refine ql_r (r_ldw rfl (fun w1 hb1 hs1 hB1 => show Loads _ _ _ _ (.int .i64 x95) from ld_own (id := 5000) hs1 rfl rfl ty3 hx95)) rfl ?_
      refine ql_r (r_move rfl) rfl ?_
      refine ql_r (r_move rfl) rfl ?_
      refine ql_ixo (id := 5000) encI _ rfl rfl rfl rfl sl150 (by omega) (by omega) rfl fun x99 hx99 => ?_
      try simp only [Int.toNat_natCast] at hx99
      try simp only [Int.toNat_natCast] at hx99
      refine ql_r (r_ldw rfl (fun w1 hb1 hs1 hB1 => show Loads _ _ _ _ (.int .i64 x99) from ld_own (id := 5000) hs1 rfl rfl ty3 hx99)) rfl ?_
      refine ql_call rfl rfl cb104 rfl (fun w1 hb1 hs1 hB1 => hcmp _ _ _ (by rw [← tab_eq hx95]; exact hG _ (by omega)) (by rw [← tab_eq hx99]; exact hG _ (by omega)) (hs1.sub (subH_same rfl (subH_same rfl subH_nil))) hB1) ?_
      refine ql_r (r_lss rfl rfl) rfl ?_
      refine ql_r (r_not rfl) rfl ?_
      refine ql_nil (to_k0 (fun _ _ h => h) (hK30 _ _ _ _ _ ?_))
      clear hK30
      refine wp_condN rfl (fun hc103 => ?_) (fun hc103 => ?_)
      ·refine wp_reg ?_
       refine ol_r (r_move rfl) rfl ?_
       refine ol_r (r_addT (h + 1) rfl rfl (by omega) (by omega)) rfl ?_
       refine ol_r (r_assign rfl) rfl ?_
       refine ol_nil (to_k0 (fun _ _ h => h) (hK26 ((_, _)) _ _ ?_ ?_ (sub_cons rfl (sub_cons rfl sub_nil)) (sub_cons rfl (sub_cons rfl (sub_cons rfl (sub_cons rfl (sub_cons rfl sub_nil))))) (by exact subH_nil) (subH_same rfl (subH_same rfl (subH_same rfl (subH_same rfl (subH_same rfl (subH_same rfl (subH_same rfl (subH_same rfl (subH_same rfl (subH_same rfl (subH_same rfl subH_nil)))))))))))))
       ·try dsimp only
        first
          | exact ⟨by omega, by omega, by omega, fun x x1 x2 => (by
              have hc : ltC cf (f m) (f h) = false := ltC_f (by rw [tab_eq hx95, tab_eq hx99]; exact hc103)
              by_cases hx : x = h
              · rw [hx]; exact hc
              · cases h9 : ltC cf (f m) (f x) with
                | false => rfl
                | true => have := RR.lt_right hw (hM.l x h x1 (by omega) (by omega)) h9; rw [hc] at this; cases this), hhi⟩
       ·try dsimp only
        omega
      ·refine wp_reg ?_
       refine ol_r (r_move rfl) rfl ?_
       refine ol_r (r_assign rfl) rfl ?_
       refine ol_nil (to_k0 (fun _ _ h => h) (hK26 ((_, _)) _ _ ?_ ?_ (sub_cons rfl (sub_cons rfl sub_nil)) (sub_cons rfl (sub_cons rfl (sub_cons rfl (sub_cons rfl (sub_cons rfl sub_nil))))) (by exact subH_nil) (subH_same rfl (subH_same rfl (subH_same rfl (subH_same rfl (subH_same rfl (subH_same rfl (subH_same rfl (subH_same rfl (subH_same rfl (subH_same rfl (subH_same rfl subH_nil)))))))))))))
       ·try dsimp only
        first
          | exact ⟨by omega, by omega, by omega, hlo, fun x x1 x2 => by
              have hc : ltC cf (f m) (f h) = true := ltC_t (by rw [tab_eq hx95, tab_eq hx99]; exact hc103)
              by_cases hx : x = h
              · rw [hx]; exact hc
              · exact RR.lt_right hw (hM.l h x (by omega) (by omega) x2) hc⟩
       ·try dsimp only
        omega
     ·refine wp_exit' (to_k0 (fun _ _ h => h) (hK25 _ _ _ _ _ ?_))
      clear hK25
      refine wp_seq' fun K31 hK31 => ?_
      refine wp_seq' fun K32 hK32 => ?_
      refine wp_reg ?_
      obtain rfl : i = j := by omega
      obtain rfl : q = m + 1 := by omega
      refine ol_r (r_move rfl) rfl ?_
      refine ol_r (r_assign rfl) rfl ?_
      refine ol_nil (to_k0 (fun _ _ h => h) (hK32 _ _ _ _ _ ?_))
      clear hK32
      refine wp_block' ?_
      apply wp_loopM (σ := Nat) (fun s => i ≤ s ∧ s ≤ m) (fun s => [(17, .int .i64 s)]) [(0, _), (1, _), (2, _), (3, _), (4, _), (14, _)] (fun s => [(5000, .row a n c (encI.enc (tab n (mvL f s m))) 3 1)]) [(5001, _), (5002, _), (5003, _), (5004, _), (5005, _), (5006, _), (5007, _), (5008, _), (5009, _), (5010, _)] (fun s => s) (m)
      ·try dsimp only
       exact ⟨hj, Nat.le_refl _⟩
      ·exact (sub_cons rfl sub_nil)
      ·exact (sub_cons rfl (sub_cons rfl (sub_cons rfl (sub_cons rfl (sub_cons rfl (sub_cons rfl sub_nil))))))
      ·exact (subH_row rfl (by rw [mvL_start]) subH_nil)
      ·exact (subH_same rfl (subH_same rfl (subH_same rfl (subH_same rfl (subH_same rfl (subH_same rfl (subH_same rfl (subH_same rfl (subH_same rfl (subH_same rfl subH_nil))))))))))
      ·rintro k ⟨hk1, hk2⟩
       have hFl := tab_len n (mvL f k m)
       intro K33 hK33
       refine wp_seq' fun K34 hK34 => ?_
       refine wp_seq' fun K35 hK35 => ?_
       refine wp_reg ?_
       refine ol_r (r_move rfl) rfl ?_
       refine ol_r (r_move rfl) rfl ?_
       refine ol_r (r_gtr rfl rfl) rfl ?_
       refine ol_nil (to_k0 (fun _ _ h => h) (hK35 _ _ _ _ _ ?_))
       clear hK35
       refine wp_condD rfl (fun hc110 => ?_) (fun hc110 => ?_)
       ·refine wp_skip' (to_k0 (fun _ _ h => h) (hK34 _ _ _ _ _ ?_))
        clear hK34
        refine wp_seq' fun K36 hK36 => ?_
        refine wp_block' ?_
        refine wp_rega [(999, [(5001, _), (5002, _), (5003, _), (5004, _), (5005, _), (5006, _), (5007, _), (5008, _), (5009, _), (5010, _)]), (15, [(5000, _)])] (by kernel_rfl) ⟨.inr (subH_same rfl (subH_same rfl (subH_same rfl (subH_same rfl (subH_same rfl (subH_same rfl (subH_same rfl (subH_same rfl (subH_same rfl (subH_same rfl subH_nil)))))))))), ⟨.inr (subH_same rfl subH_nil), trivial⟩⟩ ?_
        refine aq_r 0 999 rfl (by kernel_rfl) (by kernel_rfl) (by kernel_rfl) (.head _) (by kernel_rfl) (by kernel_rfl) rfl (r_move rfl) ?_
        refine aq_r 1 999 rfl (by kernel_rfl) (by kernel_rfl) (by kernel_rfl) (.head _) (by kernel_rfl) (by kernel_rfl) rfl (r_move rfl) ?_
        refine aq_r 2 999 rfl (by kernel_rfl) (by kernel_rfl) (by kernel_rfl) (.head _) (by kernel_rfl) (by kernel_rfl) rfl (r_move rfl) ?_
        refine aq_r 3 999 rfl (by kernel_rfl) (by kernel_rfl) (by kernel_rfl) (.head _) (by kernel_rfl) (by kernel_rfl) rfl (r_move rfl) ?_
        refine aq_r 4 999 rfl (by kernel_rfl) (by kernel_rfl) (by kernel_rfl) (.head _) (by kernel_rfl) (by kernel_rfl) rfl (r_sub rfl rfl (by omega)) ?_
        refine aq_r 5 999 rfl (by kernel_rfl) (by kernel_rfl) (by kernel_rfl) (.head _) (by kernel_rfl) (by kernel_rfl) rfl (r_move rfl) ?_
        refine aq_r 6 999 rfl (by kernel_rfl) (by kernel_rfl) (by kernel_rfl) (.head _) (by kernel_rfl) (by kernel_rfl) rfl (r_move rfl) ?_
        refine aq_r 7 999 rfl (by kernel_rfl) (by kernel_rfl) (by kernel_rfl) (.head _) (by kernel_rfl) (by kernel_rfl) rfl (r_sub rfl rfl (by omega)) ?_
        refine aq_ixo 8 15 rfl (by kernel_rfl) (by kernel_rfl) (by kernel_rfl) (.tail _ (.head _)) (by kernel_rfl) (by kernel_rfl) rfl (id := 5000) encI _ rfl rfl rfl rfl sl150 (by omega) (by omega) fun x121 hx121 => ?_
        try simp only [Int.toNat_natCast] at hx121
        try simp only [Int.toNat_natCast] at hx121
        refine aq_r 9 15 rfl (by kernel_rfl) (by kernel_rfl) (by kernel_rfl) (.tail _ (.head _)) (by kernel_rfl) (by kernel_rfl) rfl (r_ldw rfl (fun w1 hb1 hs1 hB1 => show Loads _ _ _ _ (.int .i64 x121) from ld_own (id := 5000) hs1 rfl rfl ty3 hx121)) ?_
        refine aq_r 10 999 rfl (by kernel_rfl) (by kernel_rfl) (by kernel_rfl) (.head _) (by kernel_rfl) (by kernel_rfl) rfl (r_move rfl) ?_
        refine aq_r 11 999 rfl (by kernel_rfl) (by kernel_rfl) (by kernel_rfl) (.head _) (by kernel_rfl) (by kernel_rfl) rfl (r_move rfl) ?_
        refine aq_one (i := 12) (by kernel_rfl) rfl fun K37 hK37 => ?_
        refine ol_ixo (id := 5000) encI _ rfl rfl rfl rfl sl150 (by omega) rfl fun x125 hx125 => ?_
        try simp only [Int.toNat_natCast] at hx125
        try simp only [Int.toNat_natCast] at hx125
        refine ol_nil (to_k0 (fun _ _ h => h) (hK37 _ _ ⟨.inr (by repeat' first | exact subH_nil | refine subH_same rfl ?_ | (refine subH_blk rfl (by repeat' first | exact sub_nil | refine sub_cons rfl ?_) ?_)), ⟨.inr (by repeat' first | exact subH_nil | refine subH_same rfl ?_ | (refine subH_blk rfl (by repeat' first | exact sub_nil | refine sub_cons rfl ?_) ?_)), trivial⟩⟩ ?_))
        clear hK37
        refine aq_r 13 15 rfl (by kernel_rfl) (by kernel_rfl) (by kernel_rfl) (.tail _ (.head _)) (by kernel_rfl) (by kernel_rfl) rfl (r_ldw rfl (fun w1 hb1 hs1 hB1 => show Loads _ _ _ _ (.int .i64 x125) from ld_own (id := 5000) hs1 rfl rfl ty3 hx125)) ?_
        refine aq_ixo 14 15 rfl (by kernel_rfl) (by kernel_rfl) (by kernel_rfl) (.tail _ (.head _)) (by kernel_rfl) (by kernel_rfl) rfl (id := 5000) encI _ rfl rfl rfl rfl sl150 (by omega) (by omega) fun x127 hx127 => ?_
        try simp only [Int.toNat_natCast] at hx127
        try simp only [Int.toNat_natCast] at hx127
        refine aq_one (i := 15) (by kernel_rfl) rfl fun K38 hK38 => ?_
        refine ol_storeRow (id := 5000) _ _ _ rfl rfl rfl rfl sz3 (by omega) ?_
        refine ol_nil (to_k0 (fun _ _ h => h) (hK38 _ _ ⟨.inr (by repeat' first | exact subH_nil | refine subH_same rfl ?_ | (refine subH_blk rfl (by repeat' first | exact sub_nil | refine sub_cons rfl ?_) ?_)), ⟨.inl (by kernel_rfl), trivial⟩⟩ ?_))
        clear hK38
        refine aq_one (i := 16) (by kernel_rfl) rfl fun K39 hK39 => ?_
        refine ol_ixo (id := 5000) encI _ rfl rfl rfl rfl sl150 (by omega) rfl fun x128 hx128 => ?_
        try simp only [Int.toNat_natCast] at hx128
        try simp only [Int.toNat_natCast] at hx128
        refine ol_nil (to_k0 (fun _ _ h => h) (hK39 _ _ ⟨.inr (by repeat' first | exact subH_nil | refine subH_same rfl ?_ | (refine subH_blk rfl (by repeat' first | exact sub_nil | refine sub_cons rfl ?_) ?_)), ⟨.inl (by kernel_rfl), trivial⟩⟩ ?_))
        clear hK39
        refine aq_one (i := 17) (by kernel_rfl) rfl fun K40 hK40 => ?_
        refine ol_storeRow (id := 5000) _ _ _ rfl rfl rfl rfl sz3 (by omega) ?_
        refine ol_nil (to_k0 (fun _ _ h => h) (hK40 _ _ ⟨.inr (by repeat' first | exact subH_nil | refine subH_same rfl ?_ | (refine subH_blk rfl (by repeat' first | exact sub_nil | refine sub_cons rfl ?_) ?_)), ⟨.inl (by kernel_rfl), trivial⟩⟩ ?_))
        clear hK40
        refine aq_done (by kernel_rfl) ?_
        refine (to_k0 (fun _ _ h => h) (hK36 _ _ _ _ _ ?_))
        clear hK36
        refine wp_reg ?_
        refine ol_r (r_move rfl) rfl ?_
        refine ol_r (r_subT (k - 1) rfl rfl (by omega) (by omega)) rfl ?_
        refine ol_r (r_assign rfl) rfl ?_
        refine ol_nil (to_k0 (fun _ _ h => h) (hK33 (k - 1) _ _ ?_ ?_ (sub_cons rfl sub_nil) (sub_cons rfl (sub_cons rfl (sub_cons rfl (sub_cons rfl (sub_cons rfl (sub_cons rfl sub_nil)))))) (by exact (subH_row rfl (by (rw [← mvL_step (by omega) (by omega), sw_row (i := k) (j := k - 1) (by omega) (by omega) ⟨_, by omega, hx121⟩ ⟨_, by omega, hx125⟩])) subH_nil)) (subH_same rfl (subH_same rfl (subH_same rfl (subH_same rfl (subH_same rfl (subH_same rfl (subH_same rfl (subH_same rfl (subH_same rfl (subH_same rfl subH_nil))))))))))))
        ·try dsimp only
         exact ⟨by omega, by omega⟩
        ·try dsimp only
         omega
       ·refine wp_exit' (to_k0 (fun _ _ h => h) (hK31 _ _ _ _ _ ?_))
        clear hK31
        refine hQ.ret rvs0 (fun _ _ h => h) fun w hb hs hB hkd => ?_
        exact ⟨_, rfl, hb, hs.sub (subH_same rfl (subH_same rfl (subH_same rfl (subH_same rfl (subH_same rfl (subH_same rfl (subH_same rfl (subH_same rfl (subH_same rfl (subH_same rfl (subH_same rfl subH_nil))))))))))), hB, hkd, by
          obtain rfl : k = i := by omega
          exact mvL_blo hw hM hi hj hlo hhi⟩
   ·refine wp_skip' (to_k0 (fun _ _ h => h) (hK21 _ _ _ _ _ ?_))
    clear hK21
    refine wp_seq' fun K41 hK41 => ?_
    refine wp_reg ?_
    refine ol_r (r_move rfl) rfl ?_
    refine ol_r (r_move rfl) rfl ?_
    refine ol_r (r_add rfl rfl (by omega)) rfl ?_
    refine ol_r (r_conv (k2 := .u64) rfl (by kernel_rfl) (by kernel_rfl) (wrap_u64 (by omega))) rfl ?_
    refine ol_r (r_shr1 rfl rfl) rfl ?_
    refine ol_r (r_conv (k2 := .i64) rfl (by kernel_rfl) (by kernel_rfl) (IntWalk.i64_in _ (by omega))) rfl ?_
    obtain ⟨mid, hmid⟩ : ∃ h : Nat, ((p : Int) + (q : Int)) / 2 = h := ⟨(p + q) / 2, by omega⟩
    rw [hmid]
    refine ol_r (r_assign rfl) rfl ?_
    refine ol_nil (to_k0 (fun _ _ h => h) (hK41 _ _ _ _ _ ?_))
    clear hK41
    refine wp_seq' fun K42 hK42 => ?_
    refine wp_reg ?_
    refine ol_r (r_move rfl) rfl ?_
    refine ol_r (r_move rfl) rfl ?_
    refine ol_r (r_addT (mid + m) rfl rfl (by omega) (by omega)) rfl ?_
    refine ol_r (r_assign rfl) rfl ?_
    refine ol_nil (to_k0 (fun _ _ h => h) (hK42 _ _ _ _ _ ?_))
    clear hK42
    refine wp_seq' fun K43 hK43 => ?_
    refine wp_reg ?_
    refine ol_r (r_assign rfl) rfl ?_
    refine ol_r (r_assign rfl) rfl ?_
    refine ol_nil (to_k0 (fun _ _ h => h) (hK43 _ _ _ _ _ ?_))
    clear hK43
    apply wp_seq_cutM (σ := Nat × Nat) (fun s => (mid < m ∧ s.1 = mid + m - q ∧ s.2 = mid) ∨ (m ≤ mid ∧ s.1 = p ∧ s.2 = m)) (fun s => [(20, .int .i64 s.1), (21, .int .i64 s.2)]) [(0, _), (1, _), (2, _), (3, _), (4, _), (18, _), (19, _)] (fun s => []) [(5000, _), (5001, _), (5002, _), (5003, _), (5004, _), (5005, _), (5006, _), (5007, _), (5008, _), (5009, _), (5010, _)]
    ·exact (sub_cons rfl (sub_cons rfl (sub_cons rfl (sub_cons rfl (sub_cons rfl (sub_cons rfl (sub_cons rfl sub_nil)))))))
    ·exact (subH_same rfl (subH_same rfl (subH_same rfl (subH_same rfl (subH_same rfl (subH_same rfl (subH_same rfl (subH_same rfl (subH_same rfl (subH_same rfl (subH_same rfl subH_nil)))))))))))
    ·intro K44 hK44
     refine wp_seq' fun K45 hK45 => ?_
     refine wp_reg ?_
     refine ol_r (r_move rfl) rfl ?_
     refine ol_r (r_move rfl) rfl ?_
     refine ol_r (r_gtr rfl rfl) rfl ?_
     refine ol_nil (to_k0 (fun _ _ h => h) (hK45 _ _ _ _ _ ?_))
     clear hK45
     refine wp_condD rfl (fun hc140 => ?_) (fun hc140 => ?_)
     ·refine wp_seq' fun K46 hK46 => ?_
      refine wp_reg ?_
      refine ol_r (r_move rfl) rfl ?_
      refine ol_r (r_move rfl) rfl ?_
      refine ol_r (r_subT (mid + m - q) rfl rfl (by omega) (by omega)) rfl ?_
      refine ol_r (r_assign rfl) rfl ?_
      refine ol_nil (to_k0 (fun _ _ h => h) (hK46 _ _ _ _ _ ?_))
      clear hK46
      refine wp_reg ?_
      refine ol_r (r_move rfl) rfl ?_
      refine ol_r (r_assign rfl) rfl ?_
      refine ol_nil (to_k0 (fun _ _ h => h) (hK44 ((_, _)) _ _ ?_ (sub_cons rfl (sub_cons rfl sub_nil)) (sub_cons rfl (sub_cons rfl (sub_cons rfl (sub_cons rfl (sub_cons rfl (sub_cons rfl (sub_cons rfl sub_nil))))))) subH_nil (subH_same rfl (subH_same rfl (subH_same rfl (subH_same rfl (subH_same rfl (subH_same rfl (subH_same rfl (subH_same rfl (subH_same rfl (subH_same rfl (subH_same rfl subH_nil)))))))))))))
      try dsimp only
      first
      | exact .inl ⟨by omega, rfl, rfl⟩
     ·refine wp_seq' fun K47 hK47 => ?_
      refine wp_reg ?_
      refine ol_r (r_move rfl) rfl ?_
      refine ol_r (r_assign rfl) rfl ?_
      refine ol_nil (to_k0 (fun _ _ h => h) (hK47 _ _ _ _ _ ?_))
      clear hK47
      refine wp_reg ?_
      refine ol_r (r_move rfl) rfl ?_
      refine ol_r (r_assign rfl) rfl ?_
      refine ol_nil (to_k0 (fun _ _ h => h) (hK44 ((_, _)) _ _ ?_ (sub_cons rfl (sub_cons rfl sub_nil)) (sub_cons rfl (sub_cons rfl (sub_cons rfl (sub_cons rfl (sub_cons rfl (sub_cons rfl (sub_cons rfl sub_nil))))))) subH_nil (subH_same rfl (subH_same rfl (subH_same rfl (subH_same rfl (subH_same rfl (subH_same rfl (subH_same rfl (subH_same rfl (subH_same rfl (subH_same rfl (subH_same rfl subH_nil)))))))))))))
      try dsimp only
      first
      | exact .inr ⟨by omega, rfl, rfl⟩
    ·rintro ⟨s0, r0⟩ h0
     dsimp only at h0 ⊢
     refine wp_seq' fun K48 hK48 => ?_
     refine wp_reg ?_
     refine ol_r (r_move rfl) rfl ?_
     refine ol_r (r_subT (mid + m - 1) rfl rfl (by omega) (by omega)) rfl ?_
     refine ol_r (r_assign rfl) rfl ?_
     refine ol_nil (to_k0 (fun _ _ h => h) (hK48 _ _ _ _ _ ?_))
     clear hK48
     refine wp_seq' fun K49 hK49 => ?_
     refine wp_block' ?_
     apply wp_loopM (σ := Nat × Nat) (fun s => s0 ≤ s.1 ∧ s.1 ≤ s.2 ∧ s.2 ≤ r0 ∧ (s0 < s.1 → ltC cf (f (mid + m - s.1)) (f (s.1 - 1)) = false) ∧ (s.2 < r0 → ltC cf (f (mid + m - 1 - s.2)) (f s.2) = true)) (fun s => [(20, .int .i64 s.1), (21, .int .i64 s.2)]) [(0, _), (1, _), (2, _), (3, _), (4, _), (18, _), (19, _), (22, _)] (fun s => []) [(5000, _), (5001, _), (5002, _), (5003, _), (5004, _), (5005, _), (5006, _), (5007, _), (5008, _), (5009, _), (5010, _)] (fun s => s.2 - s.1) ((s0, r0))
     ·try dsimp only
      exact ⟨Nat.le_refl _, by omega, Nat.le_refl _, fun h4 => by omega, fun h4 => by omega⟩
     ·exact (sub_cons rfl (sub_cons rfl sub_nil))
     ·exact (sub_cons rfl (sub_cons rfl (sub_cons rfl (sub_cons rfl (sub_cons rfl (sub_cons rfl (sub_cons rfl (sub_cons rfl sub_nil))))))))
     ·exact subH_nil
     ·exact (subH_same rfl (subH_same rfl (subH_same rfl (subH_same rfl (subH_same rfl (subH_same rfl (subH_same rfl (subH_same rfl (subH_same rfl (subH_same rfl (subH_same rfl subH_nil)))))))))))
     ·rintro ⟨u, r⟩ ⟨hi, hij, hj, hlo, hhi⟩
      dsimp only at hi hij hj hlo hhi ⊢
      intro K50 hK50
      refine wp_seq' fun K51 hK51 => ?_
      refine wp_seq' fun K52 hK52 => ?_
      refine wp_reg ?_
      refine ol_r (r_move rfl) rfl ?_
      refine ol_r (r_move rfl) rfl ?_
      refine ol_r (r_lss rfl rfl) rfl ?_
      refine ol_nil (to_k0 (fun _ _ h => h) (hK52 _ _ _ _ _ ?_))
      clear hK52
      refine wp_condD rfl (fun hc151 => ?_) (fun hc151 => ?_)
      ·refine wp_skip' (to_k0 (fun _ _ h => h) (hK51 _ _ _ _ _ ?_))
       clear hK51
       refine wp_block' ?_
       refine wp_seq' fun K53 hK53 => ?_
       refine wp_reg ?_
       refine ol_r (r_move rfl) rfl ?_
       refine ol_r (r_move rfl) rfl ?_
       refine ol_r (r_add rfl rfl (by omega)) rfl ?_
       refine ol_r (r_conv (k2 := .u64) rfl (by kernel_rfl) (by kernel_rfl) (wrap_u64 (by omega))) rfl ?_
       refine ol_r (r_shr1 rfl rfl) rfl ?_
       refine ol_r (r_conv (k2 := .i64) rfl (by kernel_rfl) (by kernel_rfl) (IntWalk.i64_in _ (by omega))) rfl ?_
       obtain ⟨h, hh⟩ : ∃ h : Nat, ((u : Int) + (r : Int)) / 2 = h := ⟨(u + r) / 2, by omega⟩
       rw [hh]
       refine ol_r (r_assign rfl) rfl ?_
       refine ol_nil (to_k0 (fun _ _ h => h) (hK53 _ _ _ _ _ ?_))
       clear hK53
       refine wp_seq' fun K54 hK54 => ?_
       refine wp_regq (by kernel_rfl) (by kernel_rfl) ?_
       refine ql_r (r_move rfl) rfl ?_
       refine ql_r (r_move rfl) rfl ?_
       refine ql_r (r_move rfl) rfl ?_
       refine ql_r (r_move rfl) rfl ?_
       refine ql_r (r_sub rfl rfl (by omega)) rfl ?_
       refine ql_ixo (id := 5000) encI _ rfl rfl rfl rfl sl150 (by omega) (by omega) rfl fun x163 hx163 => ?_
       try simp only [Int.toNat_natCast] at hx163
       try simp only [Int.toNat_natCast] at hx163
       refine ql_r (r_ldw rfl (fun w1 hb1 hs1 hB1 => show Loads _ _ _ _ (.int .i64 x163) from ld_own (id := 5000) hs1 rfl rfl ty3 hx163)) rfl ?_
       refine ql_r (r_move rfl) rfl ?_
       refine ql_r (r_move rfl) rfl ?_
       refine ql_ixo (id := 5000) encI _ rfl rfl rfl rfl sl150 (by omega) (by omega) rfl fun x167 hx167 => ?_
       try simp only [Int.toNat_natCast] at hx167
       try simp only [Int.toNat_natCast] at hx167
       refine ql_r (r_ldw rfl (fun w1 hb1 hs1 hB1 => show Loads _ _ _ _ (.int .i64 x167) from ld_own (id := 5000) hs1 rfl rfl ty3 hx167)) rfl ?_
       have hx163' := hx163
       rw [show (((mid + m - 1 : Nat) : Int) - (h : Int)).toNat = mid + m - 1 - h by omega] at hx163'
       refine ql_call rfl rfl cb104 rfl (fun w1 hb1 hs1 hB1 => hcmp _ _ _ (by rw [← tab_eq hx163]; exact hG _ (by omega)) (by rw [← tab_eq hx167]; exact hG _ (by omega)) (hs1.sub (subH_same rfl (subH_same rfl subH_nil))) hB1) ?_
       refine ql_r (r_lss rfl rfl) rfl ?_
       refine ql_r (r_not rfl) rfl ?_
       refine ql_nil (to_k0 (fun _ _ h => h) (hK54 _ _ _ _ _ ?_))
       clear hK54
       refine wp_condN rfl (fun hc171 => ?_) (fun hc171 => ?_)
       ·refine wp_reg ?_
        refine ol_r (r_move rfl) rfl ?_
        refine ol_r (r_addT (h + 1) rfl rfl (by omega) (by omega)) rfl ?_
        refine ol_r (r_assign rfl) rfl ?_
        refine ol_nil (to_k0 (fun _ _ h => h) (hK50 ((_, _)) _ _ ?_ ?_ (sub_cons rfl (sub_cons rfl sub_nil)) (sub_cons rfl (sub_cons rfl (sub_cons rfl (sub_cons rfl (sub_cons rfl (sub_cons rfl (sub_cons rfl (sub_cons rfl sub_nil)))))))) (by exact subH_nil) (subH_same rfl (subH_same rfl (subH_same rfl (subH_same rfl (subH_same rfl (subH_same rfl (subH_same rfl (subH_same rfl (subH_same rfl (subH_same rfl (subH_same rfl subH_nil)))))))))))))
        ·try dsimp only
         first
           | exact ⟨by omega, by omega, by omega, fun _ => by
               rw [show mid + m - (h + 1) = mid + m - 1 - h by omega, Nat.add_sub_cancel]
               refine ltC_f ?_
               rw [tab_eq hx163', tab_eq hx167]; exact hc171, hhi⟩
        ·try dsimp only
         omega
       ·refine wp_reg ?_
        refine ol_r (r_move rfl) rfl ?_
        refine ol_r (r_assign rfl) rfl ?_
        refine ol_nil (to_k0 (fun _ _ h => h) (hK50 ((_, _)) _ _ ?_ ?_ (sub_cons rfl (sub_cons rfl sub_nil)) (sub_cons rfl (sub_cons rfl (sub_cons rfl (sub_cons rfl (sub_cons rfl (sub_cons rfl (sub_cons rfl (sub_cons rfl sub_nil)))))))) (by exact subH_nil) (subH_same rfl (subH_same rfl (subH_same rfl (subH_same rfl (subH_same rfl (subH_same rfl (subH_same rfl (subH_same rfl (subH_same rfl (subH_same rfl (subH_same rfl subH_nil)))))))))))))
        ·try dsimp only
         first
           | exact ⟨by omega, by omega, by omega, hlo, fun _ => by
               refine ltC_t ?_
               rw [tab_eq hx163', tab_eq hx167]; exact hc171⟩
        ·try dsimp only
         omega
      ·refine wp_exit' (to_k0 (fun _ _ h => h) (hK49 _ _ _ _ _ ?_))
       clear hK49
       refine wp_seq' fun K55 hK55 => ?_
       refine wp_reg ?_
       refine ol_r (r_move rfl) rfl ?_
       refine ol_r (r_move rfl) rfl ?_
       refine ol_r (r_subT (mid + m - u) rfl rfl (by omega) (by omega)) rfl ?_
       obtain rfl : u = r := by omega
       have hT : Turn (ltC cf) f p m q mid u (mid + m - u) := by
         refine ⟨by omega, ⟨by omega, by omega, by omega, by omega⟩, fun t1 t2 => ?_, fun t1 t2 => ?_⟩
         · exact hlo (by omega)
         · rw [show mid + m - u - 1 = mid + m - 1 - u by omega]; exact hhi (by omega)
       have hP := turn_parts hw hM hT (by omega)
       refine ol_r (r_assign rfl) rfl ?_
       refine ol_nil (to_k0 (fun _ _ h => h) (hK55 _ _ _ _ _ ?_))
       clear hK55
       apply wp_seq_cutM (σ := Nat → Int) (fun s => s = rotF f u m (mid + m - u)) (fun s => []) [(0, _), (1, _), (3, _), (4, _), (18, _), (20, _), (24, _)] (fun s => [(5000, .row a n c (encI.enc (tab n s)) 3 1)]) [(5001, _), (5002, _), (5003, _), (5004, _), (5005, _), (5006, _), (5007, _), (5008, _), (5009, _), (5010, _)]
       ·exact (sub_cons rfl (sub_cons rfl (sub_cons rfl (sub_cons rfl (sub_cons rfl (sub_cons rfl (sub_cons rfl sub_nil)))))))
       ·exact (subH_same rfl (subH_same rfl (subH_same rfl (subH_same rfl (subH_same rfl (subH_same rfl (subH_same rfl (subH_same rfl (subH_same rfl (subH_same rfl subH_nil))))))))))
       ·intro K56 hK56
        refine wp_seq' fun K57 hK57 => ?_
        refine wp_reg ?_
        refine ol_r (r_move rfl) rfl ?_
        refine ol_r (r_move rfl) rfl ?_
        refine ol_r (r_lss rfl rfl) rfl ?_
        refine ol_r (r_move rfl) rfl ?_
        refine ol_split (d := 181) rfl (fun hs181 => ?_) (fun hs181 => ?_)
        ·have phs181 := hs181; try simp only [decide_eq_true_eq, decide_eq_false_iff_not, Bool.not_eq_true', Bool.not_eq_false', Bool.not_true, Bool.not_false] at phs181
         refine ol_g rfl rfl hs181 ?_
         refine ol_r (r_move rfl) rfl ?_
         refine ol_g rfl rfl hs181 ?_
         refine ol_r (r_move rfl) rfl ?_
         refine ol_g rfl rfl hs181 ?_
         refine ol_r (r_lss rfl rfl) rfl ?_
         refine ol_r (r_pickT rfl hs181 rfl) rfl ?_
         refine ol_nil (to_k0 (fun _ _ h => h) (hK57 _ _ _ _ _ ?_))
         clear hK57
         refine wp_condD rfl (fun hc185 => ?_) (fun hc185 => ?_)
         ·refine wp_reg ?_
          refine ol_r (r_move rfl) rfl ?_
          refine ol_r (r_move rfl) rfl ?_
          refine ol_r (r_move rfl) rfl ?_
          refine ol_r (r_move rfl) rfl ?_
          refine ol_r (r_move rfl) rfl ?_
          refine ol_call rfl rfl cb156 rfl (fun w1 hb1 hs1 hB1 => ?_)
          refine Calls.mono (rotate_w cf Good B cb a n c e1 e2 e3 e4 e5 e6 e7 e8 e9 e10 f u m (mid + m - u) _ hB1 hn (by omega) (by omega) (by omega) (hs1.sub (subH_same rfl (subH_same rfl (subH_same rfl (subH_same rfl (subH_same rfl (subH_same rfl (subH_same rfl (subH_same rfl (subH_same rfl (subH_same rfl (subH_same rfl subH_nil))))))))))))) ?_
          rintro e w2 ⟨g, rfl, hb2, hs2, hB2, hk2, hg⟩
          refine After.sat rfl hb1 hb2 hs2 hB2 (hk2.imp fun _ h => h.elim) ?_
          clear hk2 hs2 hb2 hB2 hB1 hs1 hb1 w2 w1
          refine ol_nil (to_k0 (fun _ _ h => h) (hK56 (_) _ _ ?_ sub_nil (sub_cons rfl (sub_cons rfl (sub_cons rfl (sub_cons rfl (sub_cons rfl (sub_cons rfl (sub_cons rfl sub_nil))))))) (subH_row rfl (by rfl) subH_nil) (subH_same rfl (subH_same rfl (subH_same rfl (subH_same rfl (subH_same rfl (subH_same rfl (subH_same rfl (subH_same rfl (subH_same rfl (subH_same rfl subH_nil))))))))))))
          try dsimp only
          first
          | exact hg
         ·refine wp_skip' (to_k0 (fun _ _ h => h) (hK56 (_) _ _ ?_ sub_nil (sub_cons rfl (sub_cons rfl (sub_cons rfl (sub_cons rfl (sub_cons rfl (sub_cons rfl (sub_cons rfl sub_nil))))))) (subH_row rfl (by rfl) subH_nil) (subH_same rfl (subH_same rfl (subH_same rfl (subH_same rfl (subH_same rfl (subH_same rfl (subH_same rfl (subH_same rfl (subH_same rfl (subH_same rfl subH_nil))))))))))))
          try dsimp only
          first
          | (rcases Nat.lt_or_ge u m with h9 | h9
             · have h8 : mid + m - u = m := by omega
               rw [h8, rotF_id2]
             · have h8 : u = m := by omega
               rw [h8, show mid + m - m = mid by omega, rotF_id1])
        ·have phs181 := hs181; try simp only [decide_eq_true_eq, decide_eq_false_iff_not, Bool.not_eq_true', Bool.not_eq_false', Bool.not_true, Bool.not_false] at phs181
         refine ol_s rfl rfl hs181 rfl ?_
         refine ol_s rfl rfl hs181 rfl ?_
         refine ol_s rfl rfl hs181 rfl ?_
         refine ol_r (r_pickF rfl hs181 rfl) rfl ?_
         refine ol_nil (to_k0 (fun _ _ h => h) (hK57 _ _ _ _ _ ?_))
         clear hK57
         refine wp_condF rfl ?_
         refine wp_skip' (to_k0 (fun _ _ h => h) (hK56 (_) _ _ ?_ sub_nil (sub_cons rfl (sub_cons rfl (sub_cons rfl (sub_cons rfl (sub_cons rfl (sub_cons rfl (sub_cons rfl sub_nil))))))) (subH_row rfl (by rfl) subH_nil) (subH_same rfl (subH_same rfl (subH_same rfl (subH_same rfl (subH_same rfl (subH_same rfl (subH_same rfl (subH_same rfl (subH_same rfl (subH_same rfl subH_nil))))))))))))
         try dsimp only
         first
         | (rcases Nat.lt_or_ge u m with h9 | h9
            · have h8 : mid + m - u = m := by omega
              rw [h8, rotF_id2]
            · have h8 : u = m := by omega
              rw [h8, show mid + m - m = mid by omega, rotF_id1])
       ·rintro F1 hF1
        have hF1l := tab_len n F1
        have hR0 : SaS f (rotF f u m (mid + m - u)) 0 n := (SaS.rot (f := f) hT.rg.2.1 hT.rg.2.2.1).widen (Nat.zero_le _) (by omega) (by omega) (fun x hx => by simp only [rotF]; rw [if_neg (by omega), if_neg (by omega)])
        rw [← hF1] at hP hR0
        have hG1 := good_of hG hR0
        apply wp_seq_cutM (σ := Nat → Int) (fun s => Blo (ltC cf) F1 s p mid) (fun s => []) [(0, _), (3, _), (4, _), (18, _), (24, _)] (fun s => [(5000, .row a n c (encI.enc (tab n s)) 3 1)]) [(5001, _), (5002, _), (5003, _), (5004, _), (5005, _), (5006, _), (5007, _), (5008, _), (5009, _), (5010, _)]
        ·exact (sub_cons rfl (sub_cons rfl (sub_cons rfl (sub_cons rfl (sub_cons rfl sub_nil)))))
        ·exact (subH_same rfl (subH_same rfl (subH_same rfl (subH_same rfl (subH_same rfl (subH_same rfl (subH_same rfl (subH_same rfl (subH_same rfl (subH_same rfl subH_nil))))))))))
        ·intro K58 hK58
         refine wp_seq' fun K59 hK59 => ?_
         refine wp_reg ?_
         refine ol_r (r_move rfl) rfl ?_
         refine ol_r (r_move rfl) rfl ?_
         refine ol_r (r_lss rfl rfl) rfl ?_
         refine ol_r (r_move rfl) rfl ?_
         refine ol_split (d := 195) rfl (fun hs195 => ?_) (fun hs195 => ?_)
         ·have phs195 := hs195; try simp only [decide_eq_true_eq, decide_eq_false_iff_not, Bool.not_eq_true', Bool.not_eq_false', Bool.not_true, Bool.not_false] at phs195
          refine ol_g rfl rfl hs195 ?_
          refine ol_r (r_move rfl) rfl ?_
          refine ol_g rfl rfl hs195 ?_
          refine ol_r (r_move rfl) rfl ?_
          refine ol_g rfl rfl hs195 ?_
          refine ol_r (r_lss rfl rfl) rfl ?_
          refine ol_r (r_pickT rfl hs195 rfl) rfl ?_
          refine ol_nil (to_k0 (fun _ _ h => h) (hK59 _ _ _ _ _ ?_))
          clear hK59
          refine wp_condD rfl (fun hc199 => ?_) (fun hc199 => ?_)
          ·refine wp_reg ?_
           refine ol_r (r_move rfl) rfl ?_
           refine ol_r (r_move rfl) rfl ?_
           refine ol_r (r_move rfl) rfl ?_
           refine ol_r (r_move rfl) rfl ?_
           refine ol_r (r_move rfl) rfl ?_
           refine ol_call rfl rfl cb146 rfl (fun w1 hb1 hs1 hB1 => ?_)
           refine Calls.mono (ih p u mid F1 _ (by omega) hB1 (by omega) (by omega) (by omega) hG1 hP.1 (hs1.sub (subH_same rfl (subH_same rfl (subH_same rfl (subH_same rfl (subH_same rfl (subH_same rfl (subH_same rfl (subH_same rfl (subH_same rfl (subH_same rfl (subH_same rfl subH_nil))))))))))))) ?_
           rintro e w2 ⟨g, rfl, hb2, hs2, hB2, hk2, hg⟩
           refine After.sat rfl hb1 hb2 hs2 hB2 (hk2.imp fun _ h => h.elim) ?_
           clear hk2 hs2 hb2 hB2 hB1 hs1 hb1 w2 w1
           refine ol_nil (to_k0 (fun _ _ h => h) (hK58 (_) _ _ ?_ sub_nil (sub_cons rfl (sub_cons rfl (sub_cons rfl (sub_cons rfl (sub_cons rfl sub_nil))))) (subH_row rfl (by rfl) subH_nil) (subH_same rfl (subH_same rfl (subH_same rfl (subH_same rfl (subH_same rfl (subH_same rfl (subH_same rfl (subH_same rfl (subH_same rfl (subH_same rfl subH_nil))))))))))))
           try dsimp only
           first
           | exact hg
          ·refine wp_skip' (to_k0 (fun _ _ h => h) (hK58 (_) _ _ ?_ sub_nil (sub_cons rfl (sub_cons rfl (sub_cons rfl (sub_cons rfl (sub_cons rfl sub_nil))))) (subH_row rfl (by rfl) subH_nil) (subH_same rfl (subH_same rfl (subH_same rfl (subH_same rfl (subH_same rfl (subH_same rfl (subH_same rfl (subH_same rfl (subH_same rfl (subH_same rfl subH_nil))))))))))))
           try dsimp only
           first
           | (refine Blo.one ?_
              rcases Nat.lt_or_ge p u with h9 | h9
              · have h8 : u = mid := by omega
                have h7 := hP.1.l
                rw [h8] at h7; exact h7
              · have h8 : u = p := by omega
                have h7 := hP.1.r
                rw [h8] at h7; exact h7)
         ·have phs195 := hs195; try simp only [decide_eq_true_eq, decide_eq_false_iff_not, Bool.not_eq_true', Bool.not_eq_false', Bool.not_true, Bool.not_false] at phs195
          refine ol_s rfl rfl hs195 rfl ?_
          refine ol_s rfl rfl hs195 rfl ?_
          refine ol_s rfl rfl hs195 rfl ?_
          refine ol_r (r_pickF rfl hs195 rfl) rfl ?_
          refine ol_nil (to_k0 (fun _ _ h => h) (hK59 _ _ _ _ _ ?_))
          clear hK59
          refine wp_condF rfl ?_
          refine wp_skip' (to_k0 (fun _ _ h => h) (hK58 (_) _ _ ?_ sub_nil (sub_cons rfl (sub_cons rfl (sub_cons rfl (sub_cons rfl (sub_cons rfl sub_nil))))) (subH_row rfl (by rfl) subH_nil) (subH_same rfl (subH_same rfl (subH_same rfl (subH_same rfl (subH_same rfl (subH_same rfl (subH_same rfl (subH_same rfl (subH_same rfl (subH_same rfl subH_nil))))))))))))
          try dsimp only
          first
          | (refine Blo.one ?_
             rcases Nat.lt_or_ge p u with h9 | h9
             · have h8 : u = mid := by omega
               have h7 := hP.1.l
               rw [h8] at h7; exact h7
             · have h8 : u = p := by omega
               have h7 := hP.1.r
               rw [h8] at h7; exact h7)
        ·rintro F2 hF2
         have hF2l := tab_len n F2
         have hG2 := good_of hG1 (hF2.all (by omega) (by omega))
         have hM2 : MrgI (ltC cf) F2 mid (mid + m - u) q := by
           refine ⟨fun x y x1 x2 x3 => ?_, fun x y x1 x2 x3 => ?_, fun x y x1 x2 x3 x4 => ?_⟩
           · rw [hF2.out x (by omega), hF2.out y (by omega)]; exact hP.2.1.l x y x1 x2 x3
           · rw [hF2.out x (by omega), hF2.out y (by omega)]; exact hP.2.1.r x y x1 x2 x3
           · rw [hF2.out x (by omega), hF2.out y (by omega)]; exact hP.2.1.nu x y x1 x2 x3 x4
         refine wp_seq' fun K60 hK60 => ?_
         refine wp_reg ?_
         refine ol_r (r_move rfl) rfl ?_
         refine ol_r (r_move rfl) rfl ?_
         refine ol_r (r_lss rfl rfl) rfl ?_
         refine ol_r (r_move rfl) rfl ?_
         refine ol_split (d := 209) rfl (fun hs209 => ?_) (fun hs209 => ?_)
         ·have phs209 := hs209; try simp only [decide_eq_true_eq, decide_eq_false_iff_not, Bool.not_eq_true', Bool.not_eq_false', Bool.not_true, Bool.not_false] at phs209
          refine ol_g rfl rfl hs209 ?_
          refine ol_r (r_move rfl) rfl ?_
          refine ol_g rfl rfl hs209 ?_
          refine ol_r (r_move rfl) rfl ?_
          refine ol_g rfl rfl hs209 ?_
          refine ol_r (r_lss rfl rfl) rfl ?_
          refine ol_r (r_pickT rfl hs209 rfl) rfl ?_
          refine ol_nil (to_k0 (fun _ _ h => h) (hK60 _ _ _ _ _ ?_))
          clear hK60
          refine wp_condD rfl (fun hc213 => ?_) (fun hc213 => ?_)
          ·refine wp_reg ?_
           refine ol_r (r_move rfl) rfl ?_
           refine ol_r (r_move rfl) rfl ?_
           refine ol_r (r_move rfl) rfl ?_
           refine ol_r (r_move rfl) rfl ?_
           refine ol_r (r_move rfl) rfl ?_
           refine ol_call rfl rfl cb146 rfl (fun w1 hb1 hs1 hB1 => ?_)
           refine Calls.mono (ih mid (mid + m - u) q F2 _ (by omega) hB1 (by omega) (by omega) (by omega) hG2 hM2 (hs1.sub (subH_same rfl (subH_same rfl (subH_same rfl (subH_same rfl (subH_same rfl (subH_same rfl (subH_same rfl (subH_same rfl (subH_same rfl (subH_same rfl (subH_same rfl subH_nil))))))))))))) ?_
           rintro e w2 ⟨g, rfl, hb2, hs2, hB2, hk2, hg⟩
           refine After.sat rfl hb1 hb2 hs2 hB2 (hk2.imp fun _ h => h.elim) ?_
           clear hk2 hs2 hb2 hB2 hB1 hs1 hb1 w2 w1
           refine ol_nil (hQ.fall rvs0 (fun _ _ h => h) fun w hb hs hB hkd => ?_)
           first
             | exact ⟨_, rfl, hb, hs.sub (subH_same rfl (subH_same rfl (subH_same rfl (subH_same rfl (subH_same rfl (subH_same rfl (subH_same rfl (subH_same rfl (subH_same rfl (subH_same rfl (subH_same rfl subH_nil))))))))))), hB, hkd, turn_blo hw hM hT (by omega) (hF1 ▸ hF2) hg⟩
          ·refine wp_skip' (hQ.fall rvs0 (fun _ _ h => h) fun w hb hs hB hkd => ?_)
           first
             | (refine ⟨_, rfl, hb, hs.sub (subH_same rfl (subH_same rfl (subH_same rfl (subH_same rfl (subH_same rfl (subH_same rfl (subH_same rfl (subH_same rfl (subH_same rfl (subH_same rfl (subH_same rfl subH_nil))))))))))), hB, hkd, turn_blo hw hM hT (by omega) (hF1 ▸ hF2) (Blo.one ?_)⟩
                rcases Nat.lt_or_ge mid (mid + m - u) with h9 | h9
                · have h8 : mid + m - u = q := by omega
                  have h7 := hM2.l
                  rw [h8] at h7; exact h7
                · have h8 : mid + m - u = mid := by omega
                  have h7 := hM2.r
                  rw [h8] at h7; exact h7)
         ·have phs209 := hs209; try simp only [decide_eq_true_eq, decide_eq_false_iff_not, Bool.not_eq_true', Bool.not_eq_false', Bool.not_true, Bool.not_false] at phs209
          refine ol_s rfl rfl hs209 rfl ?_
          refine ol_s rfl rfl hs209 rfl ?_
          refine ol_s rfl rfl hs209 rfl ?_
          refine ol_r (r_pickF rfl hs209 rfl) rfl ?_
          refine ol_nil (to_k0 (fun _ _ h => h) (hK60 _ _ _ _ _ ?_))
          clear hK60
          refine wp_condF rfl ?_
          refine wp_skip' (hQ.fall rvs0 (fun _ _ h => h) fun w hb hs hB hkd => ?_)
          first
            | (refine ⟨_, rfl, hb, hs.sub (subH_same rfl (subH_same rfl (subH_same rfl (subH_same rfl (subH_same rfl (subH_same rfl (subH_same rfl (subH_same rfl (subH_same rfl (subH_same rfl (subH_same rfl subH_nil))))))))))), hB, hkd, turn_blo hw hM hT (by omega) (hF1 ▸ hF2) (Blo.one ?_)⟩
               rcases Nat.lt_or_ge mid (mid + m - u) with h9 | h9
               · have h8 : mid + m - u = q := by omega
                 have h7 := hM2.l
                 rw [h8] at h7; exact h7
               · have h8 : mid + m - u = mid := by omega
                 have h7 := hM2.r
                 rw [h8] at h7; exact h7)

theorem dvd_next {s p A : Nat} (hs : 0 < s) (h1 : s ∣ p) (h2 : s ∣ A) (h3 : p < A) : p + s ≤ A := by
  obtain ⟨x, rfl⟩ := h1
  obtain ⟨y, rfl⟩ := h2
  have h4 : x < y := Nat.lt_of_mul_lt_mul_left h3
  have h5 := Nat.mul_le_mul_left s (show x + 1 ≤ y from h4)
  rw [Nat.mul_add, Nat.mul_one] at h5
  exact h5
/-- Blocks of size s up to A are sorted, each with what it held; behind A nothing turned. -/
structure Hlf (lt : Int → Int → Bool) (f F0 F : Nat → Int) (s n A : Nat) : Prop where
  dv : s ∣ A
  ok : ∀ p, s ∣ p → p < A → SoR lt F p (p + s) ∧ SaS f F p (p + s)
  un : ∀ x, A ≤ x → F x = F0 x
theorem Hlf.zero {lt : Int → Int → Bool} {f F0 : Nat → Int} {s n : Nat} : Hlf lt f F0 F0 s n 0 := ⟨Nat.dvd_zero _, fun p _ h => by omega, fun _ _ => rfl⟩
theorem Blo.cong {lt : Int → Int → Bool} {f f' g : Nat → Int} {a b : Nat} (h : Blo lt f g a b) (he : ∀ x, a ≤ x → x < b → f x = f' x) : SoR lt g a b ∧ SaS f' g a b :=
  ⟨h.so, fun x p q => by obtain ⟨y, y1, y2, y3⟩ := h.sa.1 x p q; exact ⟨y, y1, y2, by rw [← he x p q]; exact y3⟩, fun x p q => by obtain ⟨y, y1, y2, y3⟩ := h.sa.2 x p q; exact ⟨y, y1, y2, by rw [← he y y1 y2]; exact y3⟩⟩
theorem Hlf.next {lt : Int → Int → Bool} {f F0 F G : Nat → Int} {s n A : Nat} (hs : 0 < s) (h : Hlf lt f F0 F s n A) (ho : ∀ x, x < A ∨ A + s ≤ x → G x = F x) (hG : SoR lt G A (A + s) ∧ SaS f G A (A + s)) : Hlf lt f F0 G s n (A + s) := by
  refine ⟨Nat.dvd_add h.dv (Nat.dvd_refl _), fun p p1 p2 => ?_, fun x hx => by rw [ho x (by omega)]; exact h.un x (by omega)⟩
  by_cases hp : p < A
  · have h2 := dvd_next hs p1 h.dv hp
    obtain ⟨h3, h4⟩ := h.ok p p1 hp
    refine ⟨fun x y x1 x2 x3 => by rw [ho x (by omega), ho y (by omega)]; exact h3 x y x1 x2 x3, fun x x1 x2 => ?_, fun x x1 x2 => ?_⟩
    · obtain ⟨y, y1, y2, y3⟩ := h4.1 x x1 x2; exact ⟨y, y1, y2, by rw [ho y (by omega)]; exact y3⟩
    · obtain ⟨y, y1, y2, y3⟩ := h4.2 x x1 x2; exact ⟨y, y1, y2, by rw [ho x (by omega)]; exact y3⟩
  · have h5 : p = A := by
      obtain ⟨x, hx⟩ := p1
      obtain ⟨y, hy⟩ := h.dv
      rw [hx, hy] at hp p2 ⊢
      have h6 : y ≤ x := by
        apply Decidable.byContradiction; intro h7
        exact hp ((Nat.mul_lt_mul_left hs).2 (by omega))
      have h8 : x < y + 1 := by
        apply Decidable.byContradiction; intro h7
        have := Nat.mul_le_mul_left s (show y + 1 ≤ x by omega)
        rw [Nat.mul_add, Nat.mul_one] at this
        omega
      rw [show x = y by omega]
    subst h5; exact hG
/-- All blocks. -/
theorem Hlf.last {lt : Int → Int → Bool} {f F0 F G : Nat → Int} {s n A : Nat} (hs : 0 < s) (h : Hlf lt f F0 F s n A) (hA : A ≤ n) (hn : n < A + s) (ho : ∀ x, x < A ∨ n ≤ x → G x = F x) (hG : SoR lt G A n ∧ SaS f G A n) : Blks lt f G s n ∧ SaS f G 0 n := by
  have key : ∀ p, s ∣ p → p < n → SoR lt G p (min (p + s) n) ∧ SaS f G p (min (p + s) n) := fun p p1 p2 => by
    by_cases hp : p < A
    · have h2 := dvd_next hs p1 h.dv hp
      obtain ⟨h3, h4⟩ := h.ok p p1 hp
      rw [Nat.min_eq_left (by omega)]
      refine ⟨fun x y x1 x2 x3 => by rw [ho x (by omega), ho y (by omega)]; exact h3 x y x1 x2 x3, fun x x1 x2 => ?_, fun x x1 x2 => ?_⟩
      · obtain ⟨y, y1, y2, y3⟩ := h4.1 x x1 x2; exact ⟨y, y1, y2, by rw [ho y (by omega)]; exact y3⟩
      · obtain ⟨y, y1, y2, y3⟩ := h4.2 x x1 x2; exact ⟨y, y1, y2, by rw [ho x (by omega)]; exact y3⟩
    · have h5 : p = A := by
        apply Decidable.byContradiction; intro h7
        have := dvd_next hs h.dv p1 (by omega)
        omega
      subst h5
      rw [Nat.min_eq_right (by omega)]; exact hG
  refine ⟨key, ?_⟩
  constructor
  · intro x _ hx
    obtain ⟨q, hq⟩ : ∃ q, q = x / s * s := ⟨_, rfl⟩
    have h1 : s ∣ q := ⟨x / s, by rw [hq, Nat.mul_comm]⟩
    have h2 := Nat.div_add_mod' x s
    have h3 := Nat.mod_lt x hs
    obtain ⟨_, h4⟩ := key q h1 (by omega)
    obtain ⟨y, y1, y2, y3⟩ := h4.1 x (by omega) (by omega)
    exact ⟨y, Nat.zero_le _, by omega, y3⟩
  · intro x _ hx
    obtain ⟨q, hq⟩ : ∃ q, q = x / s * s := ⟨_, rfl⟩
    have h1 : s ∣ q := ⟨x / s, by rw [hq, Nat.mul_comm]⟩
    have h2 := Nat.div_add_mod' x s
    have h3 := Nat.mod_lt x hs
    obtain ⟨_, h4⟩ := key q h1 (by omega)
    obtain ⟨y, y1, y2, y3⟩ := h4.2 x (by omega) (by omega)
    exact ⟨y, Nat.zero_le _, by omega, y3⟩
theorem Blks.mrg {lt : Int → Int → Bool} {f F0 F : Nat → Int} {s n p q : Nat} (hu : ∀ x y, x < y → y < n → f x < f y) (hs : 0 < s) (h : Blks lt f F0 s n) (hp : s ∣ p) (hm : p + s < q) (hqn : q ≤ n) (hx : q = p + s + s ∨ (q = n ∧ n ≤ p + s + s)) (he : ∀ x, p ≤ x → F x = F0 x) : MrgI lt F p (p + s) q ∧ SaS f F p q := by
  obtain ⟨a1, a2⟩ := h p hp (by omega)
  obtain ⟨b1, b2⟩ := h (p + s) (Nat.dvd_add hp (Nat.dvd_refl _)) (by omega)
  rw [Nat.min_eq_left (by omega)] at a1 a2
  rw [show min (p + s + s) n = q by omega] at b1 b2
  have a3 : SaS f F p (p + s) := ⟨fun x x1 x2 => by obtain ⟨y, y1, y2, y3⟩ := a2.1 x x1 x2; exact ⟨y, y1, y2, by rw [he y (by omega)]; exact y3⟩, fun x x1 x2 => by obtain ⟨y, y1, y2, y3⟩ := a2.2 x x1 x2; exact ⟨y, y1, y2, by rw [he x (by omega)]; exact y3⟩⟩
  have b3 : SaS f F (p + s) q := ⟨fun x x1 x2 => by obtain ⟨y, y1, y2, y3⟩ := b2.1 x x1 x2; exact ⟨y, y1, y2, by rw [he y (by omega)]; exact y3⟩, fun x x1 x2 => by obtain ⟨y, y1, y2, y3⟩ := b2.2 x x1 x2; exact ⟨y, y1, y2, by rw [he x (by omega)]; exact y3⟩⟩
  refine ⟨⟨fun x y x1 x2 x3 => by rw [he x (by omega), he y (by omega)]; exact a1 x y x1 x2 x3, fun x y x1 x2 x3 => by rw [he x (by omega), he y (by omega)]; exact b1 x y x1 x2 x3, fun x y x1 x2 x3 x4 => ?_⟩, SaS.join a3 b3 (by omega) (by omega)⟩
  obtain ⟨x', x1', x2', x3'⟩ := a3.2 x x1 x2
  obtain ⟨y', y1', y2', y3'⟩ := b3.2 y x3 x4
  rw [x3', y3']
  exact hu _ _ (by omega) (by omega)
theorem Blks.rest {lt : Int → Int → Bool} {f F0 F : Nat → Int} {s n p : Nat} (h : Blks lt f F0 s n) (hp : s ∣ p) (hpn : p ≤ n) (hn : n ≤ p + s) (he : ∀ x, p ≤ x → F x = F0 x) : SoR lt F p n ∧ SaS f F p n := by
  by_cases h0 : p = n
  · subst h0; exact ⟨fun x y h1 h2 h3 => by omega, fun x h1 h2 => by omega, fun x h1 h2 => by omega⟩
  · obtain ⟨a1, a2⟩ := h p hp (by omega)
    rw [Nat.min_eq_right hn] at a1 a2
    exact ⟨fun x y x1 x2 x3 => by rw [he x (by omega), he y (by omega)]; exact a1 x y x1 x2 x3, fun x x1 x2 => by obtain ⟨y, y1, y2, y3⟩ := a2.1 x x1 x2; exact ⟨y, y1, y2, by rw [he y (by omega)]; exact y3⟩, fun x x1 x2 => by obtain ⟨y, y1, y2, y3⟩ := a2.2 x x1 x2; exact ⟨y, y1, y2, by rw [he x (by omega)]; exact y3⟩⟩
theorem Blks.whole {lt : Int → Int → Bool} {f F : Nat → Int} {s n : Nat} (h : Blks lt f F s n) (hs : n ≤ s) : SoR lt F 0 n := by
  by_cases h0 : n = 0
  · subst h0; exact fun x y h1 h2 h3 => by omega
  · obtain ⟨a1, _⟩ := h 0 (Nat.dvd_zero _) (by omega)
    rw [show min (0 + s) n = n by omega] at a1
    exact a1

theorem stable_w (cf : Int → Int → Int) (Good : Int → Prop) (B : Nat) (cb : Nat) (a : Option Addr) (n c : Nat) (e1 e2 e3 e4 e5 e6 e7 e8 e9 e10 : Ent) (hw : Swo (ltC cf)) (hn : n ≤ 1000000) (hcmp : ∀ (w1 : World) (x y : Int), Good x → Good y → Sat B w1 [(5001, e1), (5002, e2)] → B ≤ w1.heap.size → Calls Try.prog 104 #[.int .i64 x, .int .i64 y, .pointer (some ⟨cb, 0, none⟩)] w1 fun e w' => e = .returned (.int .i64 (cf x y)) ∧ Below w1.heap.size w1 w') (f : Nat → Int) (w : World) (hB : B ≤ w.heap.size) (hu : ∀ x y, x < y → y < n → f x < f y) (hG : ∀ i, i < n → Good (f i)) (hs : Sat B w [(5000, .row a n c (encI.enc (tab n f)) 3 1), (5001, e1), (5002, e2), (5003, e3), (5004, e4), (5005, e5), (5006, e6), (5007, e7), (5008, e8), (5009, e9), (5010, e10)]) :
    Calls Try.prog 129 #[.slice a n c, .int .i64 n, .func (.func 104) #[] #[.pointer (some ⟨cb, 0, none⟩)]] w fun e w' => ∃ g, e = .returned (.tuple #[]) ∧ Below B w w' ∧ Sat B w' [(5000, .row a n c (encI.enc (tab n g)) 3 1), (5001, e1), (5002, e2), (5003, e3), (5004, e4), (5005, e5), (5006, e6), (5007, e7), (5008, e8), (5009, e9), (5010, e10)] ∧ B ≤ w'.heap.size ∧ Kd (fun _ => False) w w' ∧ SoR (ltC cf) g 0 n ∧ SaS f g 0 n := by

  refine enterQ (N := 63) (C := fun _ => False) (H := [(5000, .row a n c (encI.enc (tab n f)) 3 1), (5001, e1), (5002, e2), (5003, e3), (5004, e4), (5005, e5), (5006, e6), (5007, e7), (5008, e8), (5009, e9), (5010, e10)]) (B := B) (args := [_, _, _]) Try.func129 rfl rfl rfl (hB) (hs) fun Q hQ => ?_
  refine wp_seq' fun K1 hK1 => ?_
  refine wp_reg ?_
  refine ol_r (r_assign rfl) rfl ?_
  refine ol_nil (to_k0 (fun _ _ h => h) (hK1 _ _ _ _ _ ?_))
  clear hK1
  refine wp_seq' fun K2 hK2 => ?_
  refine wp_reg ?_
  refine ol_r (r_move rfl) rfl ?_
  refine ol_r (r_assign rfl) rfl ?_
  refine ol_r (r_assign rfl) rfl ?_
  refine ol_nil (to_k0 (fun _ _ h => h) (hK2 _ _ _ _ _ ?_))
  clear hK2
  refine wp_seq' fun K3 hK3 => ?_
  refine wp_block' ?_
  apply wp_loopM (σ := Nat × (Nat → Int)) (fun s => s.1 ≤ n ∧ Hlf (ltC cf) f f s.2 20 n s.1 ∧ SaS f s.2 0 n) (fun s => [(7, .int .i64 s.1), (8, .int .i64 ((s.1 + 20 : Nat) : Int))]) [(0, _), (1, _), (2, _), (6, _)] (fun s => [(5000, .row a n c (encI.enc (tab n s.2)) 3 1)]) [(5001, _), (5002, _), (5003, _), (5004, _), (5005, _), (5006, _), (5007, _), (5008, _), (5009, _), (5010, _)] (fun s => n - s.1) ((0, f))
  ·try dsimp only
   exact ⟨Nat.zero_le _, Hlf.zero, SaS.refl _ _ _⟩
  ·exact (sub_cons rfl (sub_cons rfl sub_nil))
  ·exact (sub_cons rfl (sub_cons rfl (sub_cons rfl (sub_cons rfl sub_nil))))
  ·exact (subH_row rfl (by rfl) subH_nil)
  ·exact (subH_same rfl (subH_same rfl (subH_same rfl (subH_same rfl (subH_same rfl (subH_same rfl (subH_same rfl (subH_same rfl (subH_same rfl (subH_same rfl subH_nil))))))))))
  ·rintro ⟨A, F⟩ ⟨hA, hH, hS⟩
   dsimp only at hA hH hS ⊢
   have hGF := good_of hG hS
   intro K4 hK4
   refine wp_seq' fun K5 hK5 => ?_
   refine wp_seq' fun K6 hK6 => ?_
   refine wp_reg ?_
   refine ol_r (r_move rfl) rfl ?_
   refine ol_r (r_move rfl) rfl ?_
   refine ol_r (r_leq rfl rfl) rfl ?_
   refine ol_nil (to_k0 (fun _ _ h => h) (hK6 _ _ _ _ _ ?_))
   clear hK6
   refine wp_condD rfl (fun hc13 => ?_) (fun hc13 => ?_)
   ·refine wp_skip' (to_k0 (fun _ _ h => h) (hK5 _ _ _ _ _ ?_))
    clear hK5
    refine wp_block' ?_
    refine wp_seq' fun K7 hK7 => ?_
    refine wp_reg ?_
    refine ol_r (r_move rfl) rfl ?_
    refine ol_r (r_move rfl) rfl ?_
    refine ol_r (r_move rfl) rfl ?_
    refine ol_r (r_move rfl) rfl ?_
    refine ol_call rfl rfl cb145 rfl (fun w1 hb1 hs1 hB1 => ?_)
    refine Calls.mono (insertion_w cf Good B cb a n c e1 e2 e3 e4 e5 e6 e7 e8 e9 e10 F A (A + 20) _ hw hB1 hn (by omega) (by omega) hGF (fun x y x1 x2 x3 => by rw [hH.un x x1, hH.un y (by omega)]; exact hu x y x2 (by omega)) hcmp (hs1.sub (subH_same rfl (subH_same rfl (subH_same rfl (subH_same rfl (subH_same rfl (subH_same rfl (subH_same rfl (subH_same rfl (subH_same rfl (subH_same rfl (subH_same rfl subH_nil))))))))))))) ?_
    rintro e w2 ⟨g, rfl, hb2, hs2, hB2, hk2, hg⟩
    refine After.sat rfl hb1 hb2 hs2 hB2 (hk2.imp fun _ h => h.elim) ?_
    clear hk2 hs2 hb2 hB2 hB1 hs1 hb1 w2 w1
    refine ol_nil (to_k0 (fun _ _ h => h) (hK7 _ _ _ _ _ ?_))
    clear hK7
    refine wp_seq' fun K8 hK8 => ?_
    refine wp_reg ?_
    refine ol_r (r_move rfl) rfl ?_
    refine ol_r (r_assign rfl) rfl ?_
    refine ol_nil (to_k0 (fun _ _ h => h) (hK8 _ _ _ _ _ ?_))
    clear hK8
    refine wp_reg ?_
    refine ol_r (r_move rfl) rfl ?_
    refine ol_r (r_move rfl) rfl ?_
    refine ol_r (r_addT (A + 20 + 20) rfl rfl (by omega) (by omega)) rfl ?_
    refine ol_r (r_assign rfl) rfl ?_
    refine ol_nil (to_k0 (fun _ _ h => h) (hK4 ((A + 20, _)) _ _ ?_ ?_ (sub_cons rfl (sub_cons rfl sub_nil)) (sub_cons rfl (sub_cons rfl (sub_cons rfl (sub_cons rfl sub_nil)))) (by exact (subH_row rfl (by rfl) subH_nil)) (subH_same rfl (subH_same rfl (subH_same rfl (subH_same rfl (subH_same rfl (subH_same rfl (subH_same rfl (subH_same rfl (subH_same rfl (subH_same rfl subH_nil))))))))))))
    ·try dsimp only
     exact ⟨by omega, hH.next (by omega) (fun x hx => hg.out x hx) (hg.cong fun x x1 x2 => hH.un x x1), hS.trans (hg.all (by omega) (by omega))⟩
    ·try dsimp only
     omega
   ·refine wp_exit' (to_k0 (fun _ _ h => h) (hK3 _ _ _ _ _ ?_))
    clear hK3
    refine wp_seq' fun K9 hK9 => ?_
    refine wp_reg ?_
    refine ol_r (r_move rfl) rfl ?_
    refine ol_r (r_move rfl) rfl ?_
    refine ol_r (r_move rfl) rfl ?_
    refine ol_r (r_move rfl) rfl ?_
    refine ol_call rfl rfl cb145 rfl (fun w1 hb1 hs1 hB1 => ?_)
    refine Calls.mono (insertion_w cf Good B cb a n c e1 e2 e3 e4 e5 e6 e7 e8 e9 e10 F A n _ hw hB1 hn (Nat.le_refl _) (by omega) hGF (fun x y x1 x2 x3 => by rw [hH.un x x1, hH.un y (by omega)]; exact hu x y x2 (by omega)) hcmp (hs1.sub (subH_same rfl (subH_same rfl (subH_same rfl (subH_same rfl (subH_same rfl (subH_same rfl (subH_same rfl (subH_same rfl (subH_same rfl (subH_same rfl (subH_same rfl subH_nil))))))))))))) ?_
    rintro e w2 ⟨g, rfl, hb2, hs2, hB2, hk2, hg⟩
    refine After.sat rfl hb1 hb2 hs2 hB2 (hk2.imp fun _ h => h.elim) ?_
    clear hk2 hs2 hb2 hB2 hB1 hs1 hb1 w2 w1
    refine ol_nil (to_k0 (fun _ _ h => h) (hK9 _ _ _ _ _ ?_))
    clear hK9
    refine wp_block' ?_
    apply wp_loopM (σ := Nat × (Nat → Int)) (fun s => 0 < s.1 ∧ s.1 ≤ 4000000 ∧ Blks (ltC cf) f s.2 s.1 n ∧ SaS f s.2 0 n) (fun s => [(6, .int .i64 s.1)]) [(0, _), (1, _), (2, _)] (fun s => [(5000, .row a n c (encI.enc (tab n s.2)) 3 1)]) [(5001, _), (5002, _), (5003, _), (5004, _), (5005, _), (5006, _), (5007, _), (5008, _), (5009, _), (5010, _)] (fun s => n - s.1) ((20, _))
    ·try dsimp only
     have hL := hH.last (by omega) hA (by omega) (fun x hx => hg.out x hx) (hg.cong fun x x1 x2 => hH.un x x1)
     exact ⟨by omega, by omega, hL.1, hL.2⟩
    ·exact (sub_cons rfl sub_nil)
    ·exact (sub_cons rfl (sub_cons rfl (sub_cons rfl sub_nil)))
    ·exact (subH_row rfl (by rfl) subH_nil)
    ·exact (subH_same rfl (subH_same rfl (subH_same rfl (subH_same rfl (subH_same rfl (subH_same rfl (subH_same rfl (subH_same rfl (subH_same rfl (subH_same rfl subH_nil))))))))))
    ·rintro ⟨u, F⟩ ⟨hu0, hu1, hK, hS⟩
     dsimp only at hu0 hu1 hK hS ⊢
     intro K10 hK10
     refine wp_seq' fun K11 hK11 => ?_
     refine wp_seq' fun K12 hK12 => ?_
     refine wp_reg ?_
     refine ol_r (r_move rfl) rfl ?_
     refine ol_r (r_move rfl) rfl ?_
     refine ol_r (r_lss rfl rfl) rfl ?_
     refine ol_nil (to_k0 (fun _ _ h => h) (hK12 _ _ _ _ _ ?_))
     clear hK12
     refine wp_condD rfl (fun hc30 => ?_) (fun hc30 => ?_)
     ·refine wp_skip' (to_k0 (fun _ _ h => h) (hK11 _ _ _ _ _ ?_))
      clear hK11
      refine wp_block' ?_
      refine wp_seq' fun K13 hK13 => ?_
      refine wp_reg ?_
      refine ol_r (r_move rfl) rfl ?_
      refine ol_r (r_mulT (2 * u) rfl rfl (by omega) (by omega)) rfl ?_
      refine ol_r (r_assign rfl) rfl ?_
      refine ol_r (r_assign rfl) rfl ?_
      refine ol_nil (to_k0 (fun _ _ h => h) (hK13 _ _ _ _ _ ?_))
      clear hK13
      refine wp_seq' fun K14 hK14 => ?_
      refine wp_block' ?_
      apply wp_loopM (σ := Nat × (Nat → Int)) (fun s => s.1 ≤ n ∧ Hlf (ltC cf) f F s.2 (2 * u) n s.1 ∧ SaS f s.2 0 n) (fun s => [(7, .int .i64 s.1), (8, .int .i64 ((s.1 + 2 * u : Nat) : Int))]) [(0, _), (1, _), (2, _), (6, _)] (fun s => [(5000, .row a n c (encI.enc (tab n s.2)) 3 1)]) [(5001, _), (5002, _), (5003, _), (5004, _), (5005, _), (5006, _), (5007, _), (5008, _), (5009, _), (5010, _)] (fun s => n - s.1) ((0, F))
      ·try dsimp only
       exact ⟨Nat.zero_le _, Hlf.zero, hS⟩
      ·exact (sub_cons (by first | rfl | (rw [Nat.zero_add]; rfl)) (sub_cons (by first | rfl | (rw [Nat.zero_add]; rfl)) sub_nil))
      ·exact (sub_cons rfl (sub_cons rfl (sub_cons rfl (sub_cons rfl sub_nil))))
      ·exact (subH_row rfl (by rfl) subH_nil)
      ·exact (subH_same rfl (subH_same rfl (subH_same rfl (subH_same rfl (subH_same rfl (subH_same rfl (subH_same rfl (subH_same rfl (subH_same rfl (subH_same rfl subH_nil))))))))))
      ·rintro ⟨A, G⟩ ⟨hA, hH, hSG⟩
       dsimp only at hA hH hSG ⊢
       have hGG := good_of hG hSG
       have hdv : u ∣ A := Nat.dvd_trans ⟨2, by omega⟩ hH.dv
       intro K15 hK15
       refine wp_seq' fun K16 hK16 => ?_
       refine wp_seq' fun K17 hK17 => ?_
       refine wp_reg ?_
       refine ol_r (r_move rfl) rfl ?_
       refine ol_r (r_move rfl) rfl ?_
       refine ol_r (r_leq rfl rfl) rfl ?_
       refine ol_nil (to_k0 (fun _ _ h => h) (hK17 _ _ _ _ _ ?_))
       clear hK17
       refine wp_condD rfl (fun hc35 => ?_) (fun hc35 => ?_)
       ·refine wp_skip' (to_k0 (fun _ _ h => h) (hK16 _ _ _ _ _ ?_))
        clear hK16
        refine wp_block' ?_
        refine wp_seq' fun K18 hK18 => ?_
        refine wp_reg ?_
        refine ol_r (r_move rfl) rfl ?_
        refine ol_r (r_move rfl) rfl ?_
        refine ol_r (r_move rfl) rfl ?_
        refine ol_r (r_move rfl) rfl ?_
        have hMr := Blks.mrg (q := A + 2 * u) hu hu0 hK hdv (by omega) (by omega) (.inl (by omega)) hH.un
        refine ol_r (r_addT (A + u) rfl rfl (by omega) (by omega)) rfl ?_
        refine ol_r (r_move rfl) rfl ?_
        refine ol_r (r_move rfl) rfl ?_
        refine ol_call rfl rfl cb146 rfl (fun w1 hb1 hs1 hB1 => ?_)
        refine Calls.mono (symMerge_w cf Good B cb a n c e1 e2 e3 e4 e5 e6 e7 e8 e9 e10 hw hn hcmp (u + u) A (A + u) (A + 2 * u) G _ (by omega) hB1 (by omega) (by omega) (by omega) hGG hMr.1 (hs1.sub (subH_same rfl (subH_same rfl (subH_same rfl (subH_same rfl (subH_same rfl (subH_same rfl (subH_same rfl (subH_same rfl (subH_same rfl (subH_same rfl (subH_same rfl subH_nil))))))))))))) ?_
        rintro e w2 ⟨g, rfl, hb2, hs2, hB2, hk2, hg⟩
        refine After.sat rfl hb1 hb2 hs2 hB2 (hk2.imp fun _ h => h.elim) ?_
        clear hk2 hs2 hb2 hB2 hB1 hs1 hb1 w2 w1
        refine ol_nil (to_k0 (fun _ _ h => h) (hK18 _ _ _ _ _ ?_))
        clear hK18
        refine wp_seq' fun K19 hK19 => ?_
        refine wp_reg ?_
        refine ol_r (r_move rfl) rfl ?_
        refine ol_r (r_assign rfl) rfl ?_
        refine ol_nil (to_k0 (fun _ _ h => h) (hK19 _ _ _ _ _ ?_))
        clear hK19
        refine wp_reg ?_
        refine ol_r (r_move rfl) rfl ?_
        refine ol_r (r_move rfl) rfl ?_
        refine ol_r (r_mulT (2 * u) rfl rfl (by omega) (by omega)) rfl ?_
        refine ol_r (r_addT (A + 2 * u + 2 * u) rfl rfl (by omega) (by omega)) rfl ?_
        refine ol_r (r_assign rfl) rfl ?_
        refine ol_nil (to_k0 (fun _ _ h => h) (hK15 ((A + 2 * u, _)) _ _ ?_ ?_ (sub_cons rfl (sub_cons rfl sub_nil)) (sub_cons rfl (sub_cons rfl (sub_cons rfl (sub_cons rfl sub_nil)))) (by exact (subH_row rfl (by rfl) subH_nil)) (subH_same rfl (subH_same rfl (subH_same rfl (subH_same rfl (subH_same rfl (subH_same rfl (subH_same rfl (subH_same rfl (subH_same rfl (subH_same rfl subH_nil))))))))))))
        ·try dsimp only
         exact ⟨by omega, hH.next (by omega) (fun x hx => hg.out x hx) ⟨hg.so, hMr.2.trans hg.sa⟩, hSG.trans (hg.all (by omega) (by omega))⟩
        ·try dsimp only
         omega
       ·refine wp_exit' (to_k0 (fun _ _ h => h) (hK14 _ _ _ _ _ ?_))
        clear hK14
        apply wp_seq_cutM (σ := Nat → Int) (fun s => Blks (ltC cf) f s (2 * u) n ∧ SaS f s 0 n) (fun s => []) [(0, _), (1, _), (2, _), (6, _)] (fun s => [(5000, .row a n c (encI.enc (tab n s)) 3 1)]) [(5001, _), (5002, _), (5003, _), (5004, _), (5005, _), (5006, _), (5007, _), (5008, _), (5009, _), (5010, _)]
        ·exact (sub_cons rfl (sub_cons rfl (sub_cons rfl (sub_cons rfl sub_nil))))
        ·exact (subH_same rfl (subH_same rfl (subH_same rfl (subH_same rfl (subH_same rfl (subH_same rfl (subH_same rfl (subH_same rfl (subH_same rfl (subH_same rfl subH_nil))))))))))
        ·intro K20 hK20
         refine wp_seq' fun K21 hK21 => ?_
         refine wp_reg ?_
         refine ol_r (r_move rfl) rfl ?_
         refine ol_r (r_move rfl) rfl ?_
         refine ol_r (r_addT (A + u) rfl rfl (by omega) (by omega)) rfl ?_
         refine ol_r (r_assign rfl) rfl ?_
         refine ol_nil (to_k0 (fun _ _ h => h) (hK21 _ _ _ _ _ ?_))
         clear hK21
         refine wp_seq' fun K22 hK22 => ?_
         refine wp_reg ?_
         refine ol_r (r_move rfl) rfl ?_
         refine ol_r (r_move rfl) rfl ?_
         refine ol_r (r_lss rfl rfl) rfl ?_
         refine ol_nil (to_k0 (fun _ _ h => h) (hK22 _ _ _ _ _ ?_))
         clear hK22
         refine wp_condD rfl (fun hc54 => ?_) (fun hc54 => ?_)
         ·refine wp_reg ?_
          have hMr := Blks.mrg (q := n) hu hu0 hK hdv (by omega) (by omega) (.inr ⟨rfl, by omega⟩) hH.un
          refine ol_r (r_move rfl) rfl ?_
          refine ol_r (r_move rfl) rfl ?_
          refine ol_r (r_move rfl) rfl ?_
          refine ol_r (r_move rfl) rfl ?_
          refine ol_r (r_move rfl) rfl ?_
          refine ol_call rfl rfl cb146 rfl (fun w1 hb1 hs1 hB1 => ?_)
          refine Calls.mono (symMerge_w cf Good B cb a n c e1 e2 e3 e4 e5 e6 e7 e8 e9 e10 hw hn hcmp (u + u) A (A + u) n G _ (by omega) hB1 (by omega) (by omega) (by omega) hGG hMr.1 (hs1.sub (subH_same rfl (subH_same rfl (subH_same rfl (subH_same rfl (subH_same rfl (subH_same rfl (subH_same rfl (subH_same rfl (subH_same rfl (subH_same rfl (subH_same rfl subH_nil))))))))))))) ?_
          rintro e w2 ⟨g, rfl, hb2, hs2, hB2, hk2, hg⟩
          refine After.sat rfl hb1 hb2 hs2 hB2 (hk2.imp fun _ h => h.elim) ?_
          clear hk2 hs2 hb2 hB2 hB1 hs1 hb1 w2 w1
          refine ol_nil (to_k0 (fun _ _ h => h) (hK20 (_) _ _ ?_ sub_nil (sub_cons rfl (sub_cons rfl (sub_cons rfl (sub_cons rfl sub_nil)))) (subH_row rfl (by rfl) subH_nil) (subH_same rfl (subH_same rfl (subH_same rfl (subH_same rfl (subH_same rfl (subH_same rfl (subH_same rfl (subH_same rfl (subH_same rfl (subH_same rfl subH_nil))))))))))))
          try dsimp only
          first
          | exact hH.last (by omega) hA (by omega) (fun x hx => hg.out x hx) ⟨hg.so, hMr.2.trans hg.sa⟩
         ·refine wp_skip' (to_k0 (fun _ _ h => h) (hK20 (_) _ _ ?_ sub_nil (sub_cons rfl (sub_cons rfl (sub_cons rfl (sub_cons rfl sub_nil)))) (subH_row rfl (by rfl) subH_nil) (subH_same rfl (subH_same rfl (subH_same rfl (subH_same rfl (subH_same rfl (subH_same rfl (subH_same rfl (subH_same rfl (subH_same rfl (subH_same rfl subH_nil))))))))))))
          try dsimp only
          first
          | exact hH.last (by omega) hA (by omega) (fun _ _ => rfl) (Blks.rest hK hdv hA (by omega) hH.un)
        ·rintro G2 ⟨hL1, hL2⟩
         refine wp_reg ?_
         refine ol_r (r_move rfl) rfl ?_
         refine ol_r (r_mulT (2 * u) rfl rfl (by omega) (by omega)) rfl ?_
         refine ol_r (r_assign rfl) rfl ?_
         refine ol_nil (to_k0 (fun _ _ h => h) (hK10 ((2 * u, _)) _ _ ?_ ?_ (sub_cons rfl sub_nil) (sub_cons rfl (sub_cons rfl (sub_cons rfl sub_nil))) (by exact (subH_row rfl (by rfl) subH_nil)) (subH_same rfl (subH_same rfl (subH_same rfl (subH_same rfl (subH_same rfl (subH_same rfl (subH_same rfl (subH_same rfl (subH_same rfl (subH_same rfl subH_nil))))))))))))
         ·try dsimp only
          exact ⟨by omega, by omega, hL1, hL2⟩
         ·try dsimp only
          omega
     ·refine wp_exit' (hQ.fall rvs0 (fun _ _ h => h) fun w hb hs hB hkd => ?_)
      exact ⟨_, rfl, hb, hs.sub (subH_same rfl (subH_same rfl (subH_same rfl (subH_same rfl (subH_same rfl (subH_same rfl (subH_same rfl (subH_same rfl (subH_same rfl (subH_same rfl (subH_same rfl subH_nil))))))))))), hB, hkd, hK.whole (by omega), hS⟩

theorem sortStable_w (cf : Int → Int → Int) (Good : Int → Prop) (B : Nat) (cb : Nat) (a : Option Addr) (n c : Nat) (e1 e2 e3 e4 e5 e6 e7 e8 e9 e10 : Ent) (hw : Swo (ltC cf)) (hn : n ≤ 1000000) (hcmp : ∀ (w1 : World) (x y : Int), Good x → Good y → Sat B w1 [(5001, e1), (5002, e2)] → B ≤ w1.heap.size → Calls Try.prog 104 #[.int .i64 x, .int .i64 y, .pointer (some ⟨cb, 0, none⟩)] w1 fun e w' => e = .returned (.int .i64 (cf x y)) ∧ Below w1.heap.size w1 w') (f : Nat → Int) (w : World) (hB : B ≤ w.heap.size) (hu : ∀ x y, x < y → y < n → f x < f y) (hG : ∀ i, i < n → Good (f i)) (hs : Sat B w [(5000, .row a n c (encI.enc (tab n f)) 3 1), (5001, e1), (5002, e2), (5003, e3), (5004, e4), (5005, e5), (5006, e6), (5007, e7), (5008, e8), (5009, e9), (5010, e10)]) :
    Calls Try.prog 103 #[.slice a n c, .func (.func 104) #[] #[.pointer (some ⟨cb, 0, none⟩)]] w fun e w' => ∃ g, e = .returned (.tuple #[]) ∧ Below B w w' ∧ Sat B w' [(5000, .row a n c (encI.enc (tab n g)) 3 1), (5001, e1), (5002, e2), (5003, e3), (5004, e4), (5005, e5), (5006, e6), (5007, e7), (5008, e8), (5009, e9), (5010, e10)] ∧ B ≤ w'.heap.size ∧ Kd (fun _ => False) w w' ∧ SoR (ltC cf) g 0 n ∧ SaS f g 0 n := by

  refine enterQ (N := 9) (C := fun _ => False) (H := [(5000, .row a n c (encI.enc (tab n f)) 3 1), (5001, e1), (5002, e2), (5003, e3), (5004, e4), (5005, e5), (5006, e6), (5007, e7), (5008, e8), (5009, e9), (5010, e10)]) (B := B) (args := [_, _]) Try.func103 rfl rfl rfl (hB) (hs) fun Q hQ => ?_
  refine wp_reg ?_
  refine ol_r (r_move rfl) rfl ?_
  refine ol_r (r_move rfl) rfl ?_
  refine ol_r (r_len rfl sl150) rfl ?_
  refine ol_r (r_move rfl) rfl ?_
  refine ol_call rfl rfl cb129 rfl (fun w1 hb1 hs1 hB1 => ?_)
  refine Calls.mono (stable_w cf Good B cb a n c e1 e2 e3 e4 e5 e6 e7 e8 e9 e10 hw hn hcmp f _ hB1 hu hG (hs1.sub (subH_same rfl (subH_same rfl (subH_same rfl (subH_same rfl (subH_same rfl (subH_same rfl (subH_same rfl (subH_same rfl (subH_same rfl (subH_same rfl (subH_same rfl subH_nil))))))))))))) ?_
  rintro e w2 ⟨g, rfl, hb2, hs2, hB2, hk2, hg⟩
  refine After.sat rfl hb1 hb2 hs2 hB2 (hk2.imp fun _ h => h.elim) ?_
  clear hk2 hs2 hb2 hB2 hB1 hs1 hb1 w2 w1
  refine ol_nil (hQ.fall rvs0 (fun _ _ h => h) fun w hb hs hB hkd => ?_)
  exact ⟨_, rfl, hb, hs.sub (subH_same rfl (subH_same rfl (subH_same rfl (subH_same rfl (subH_same rfl (subH_same rfl (subH_same rfl (subH_same rfl (subH_same rfl (subH_same rfl (subH_same rfl subH_nil))))))))))), hB, hkd, hg⟩

end Go.Proofs.Ytjflbnbofedlkaa

/-
  Numbers of any kind: sums, products, quotients, masks and shifts whose value is told.
-/



namespace Go.Proofs.Ytjflbnbofedlkaa
namespace Hx
open Go Go.RowKit
set_option linter.unusedVariables false
set_option linter.unusedSimpArgs false
section
variable {P : Program} {N : Fr} {B : Nat} {w0 : World} {al : AL} {H : HL} {ty : TypeId} {x y : Operand} {t t' : TypeId} {m n : Int} {k : IntKind}
theorem r_addg (v : Int) (hx : ev al x = some (.int k m)) (hy : ev al y = some (.int k n)) (hw : k.wrap (m + n) = v) : Runs P N B w0 (.binOp .add t x y t') ty al H (.int k v) := fun a w hst => by
  simp [execOp, hst.regs.eval hx, hst.regs.eval hy, eqGuard_add, binOp_add, Op.intArith, hw]
theorem r_subg (v : Int) (hx : ev al x = some (.int k m)) (hy : ev al y = some (.int k n)) (hw : k.wrap (m - n) = v) : Runs P N B w0 (.binOp .sub t x y t') ty al H (.int k v) := fun a w hst => by
  simp [execOp, hst.regs.eval hx, hst.regs.eval hy, eqGuard_sub, binOp_sub, Op.intArith, hw]
theorem r_mulg (v : Int) (hx : ev al x = some (.int k m)) (hy : ev al y = some (.int k n)) (hw : k.wrap (m * n) = v) : Runs P N B w0 (.binOp .mul t x y t') ty al H (.int k v) := fun a w hst => by
  simp [execOp, hst.regs.eval hx, hst.regs.eval hy, eqGuard_mul, binOp_mul, Op.intArith, hw]
theorem r_negg (v : Int) (hx : ev al x = some (.int k m)) (hw : k.wrap (-m) = v) : Runs P N B w0 (.unOp .neg t x) ty al H (.int k v) := fun a w hst => by
  simp [execOp, hst.regs.eval hx, Op.unary, Op.intArith, hw]
theorem r_quog (hx : ev al x = some (.int k m)) (hy : ev al y = some (.int k n)) (h0 : 0 ≤ m) (h1 : 0 < n) (hw : k.wrap (m / n) = m / n) : Runs P N B w0 (.binOp .quo t x y t') ty al H (.int k (m / n)) := fun a w hst => by
  have h3 : m.tdiv n = m / n := Int.tdiv_eq_ediv_of_nonneg h0
  simp [execOp, hst.regs.eval hx, hst.regs.eval hy, eqGuard_quo, binOp_quo, Op.intDiv, show n ≠ 0 by omega, h3, hw]
theorem r_remg (hx : ev al x = some (.int k m)) (hy : ev al y = some (.int k n)) (h0 : 0 ≤ m) (h1 : 0 < n) (hw : k.wrap (m % n) = m % n) : Runs P N B w0 (.binOp .rem t x y t') ty al H (.int k (m % n)) := fun a w hst => by
  have h3 : m.tmod n = m % n := Int.tmod_eq_emod_of_nonneg h0
  simp [execOp, hst.regs.eval hx, hst.regs.eval hy, eqGuard_rem, binOp_rem, Op.intDiv, show n ≠ 0 by omega, h3, hw]
theorem mask32 {m : Int} (h0 : 0 ≤ m) (h1 : m < 18446744073709551616) : bits .and .u64 m 4294967295 = m % 4294967296 := by
  obtain ⟨a, rfl⟩ := Int.eq_ofNat_of_zero_le h0
  have h := bits_and_u64_nat a 4294967295 (by omega) (by omega)
  have e : a &&& 4294967295 = a % 4294967296 := Nat.and_two_pow_sub_one_eq_mod a 32
  rw [e] at h
  exact h
theorem r_and32 (v : Int) (hx : ev al x = some (.int .u64 m)) (hy : ev al y = some (.int .u64 4294967295)) (h0 : 0 ≤ m) (h1 : m < 18446744073709551616) (hv : m % 4294967296 = v) : Runs P N B w0 (.binOp .and t x y t') ty al H (.int .u64 v) := fun a w hst => by
  simp only [execOp, hst.regs.eval hx, hst.regs.eval hy, eqGuard_and, binOp_and, intBits_and, mask32 h0 h1, hv, Sem.run_bind, Sem.run_pure, Result.andThen_ok]
theorem r_shr32 (v : Int) (hx : ev al x = some (.int .u64 m)) (hy : ev al y = some (.int .u64 32)) (h0 : 0 ≤ m) (hv : m / 4294967296 = v) : Runs P N B w0 (.binOp .shr t x y t') ty al H (.int .u64 v) := fun a w hst => by
  have h2 : m.fdiv (2 ^ 32) = m / 4294967296 := Int.fdiv_eq_ediv_of_nonneg m (by decide)
  simp [execOp, hst.regs.eval hx, hst.regs.eval hy, binOp_shr, Op.shift, eqGuard_shr]
  have h3 : min 32 IntKind.u64.bits = 32 := rfl
  rw [h3, h2, hv]
theorem r_convg {src dst : TypeId} {k1 k2 : IntKind} (v : Int) (hx : ev al x = some (.int k1 m)) (hs : (P.underlying src).isSome = true) (hd : P.underlying dst = some (.int k2)) (hw : k2.wrap m = v) :
    Runs P N B w0 (.convert src dst x) ty al H (.int k2 v) := fun a w hst => by
  obtain ⟨d1, h1⟩ := Option.isSome_iff_exists.1 hs
  simp only [execOp, hst.regs.eval hx, convert, Sem.run_bind, run_underlying h1, run_underlying hd, Result.andThen_ok, Conv.intToInt, Sem.run_pure]
  cases d1 <;> simp [hw]
theorem wrapu_neg {m : Int} (h : -9223372036854775808 ≤ m ∧ m < 0) : IntKind.u64.wrap m = m + 18446744073709551616 := by rw [IntKind.wrap_u64]; omega
theorem wrapu_negneg {m : Int} (h : -9223372036854775808 ≤ m ∧ m < 0) : IntKind.u64.wrap (-(m + 18446744073709551616)) = -m := by rw [IntKind.wrap_u64]; omega
end
/-- A literal of some elements of any size. -/
theorem ol_bsG {P : Program} {N : Fr} {B : Nat} {w0 : World} {al : AL} {H : HL} {ops rest : List Oper} {Q : Exit → Act → World → Prop} {ty : TypeId} {pos : String} {after : Array Edge} {d : Nat} {t e : TypeId} {bytes len size : Nat} {parts : List (Nat × Operand)} {pv : List (Nat × Value)} (cs : List Value) (id : Nat) (hp : evp al parts = some pv) (hT : RowT P t e size bytes) (hl : Nat.beq cs.length (len * size) = true) (hsm : Nat.ble len 9223372036854775807 = true)
    (hrun : ∀ w, (Instr.buildSlice t len pv.toArray).run P w = .ok (.slice (some ⟨w.heap.size, 0, none⟩) len len) (w.alloc (.cells cs.toArray e))) (hd : Nat.blt d N.n = true)
    (k : ∀ a', OL P N B w0 ops rest Q ((d, .slice a' len len) :: al) ((id, .row a' len len cs e size) :: H)) :
    OL P N B w0 ops ({ dst := some d, op := .buildSlice t len parts.toArray, type := ty, pos, after, guard := none } :: rest) Q al H := by
  intro a w hst
  refine wpList_plain rfl fun K hK => ?_
  have hl' : cs.length = len * size := Nat.eq_of_beq_eq_true hl
  have hsm' : len ≤ 9223372036854775807 := by simpa using hsm
  have hev := evp_eval hst.regs hp
  have hrun' : (execOp a.eval { dst := some d, op := .buildSlice t len parts.toArray, type := ty, pos, after, guard := none }).run P w = .ok (.value (.slice (some ⟨w.heap.size, 0, none⟩) len len)) (w.alloc (.cells cs.toArray e)) := by
    simp only [execOp, List.map_toArray, hev, Sem.run_bind, hrun w, Result.andThen_ok, Sem.run_pure]
  unfold Oper.wp
  rw [hrun', Oper.upon_value]
  refine hK _ _ (k _ _ _ (hst.step (hst.regs.put (by simpa using hd) _) (hst.below.alloc hst.base _) ?_ (by have := hst.base; simp; omega) (Kd.alloc w _)))
  refine hst.sat.new id (e := .row (some ⟨w.heap.size, 0, none⟩) len len cs e size) ?_ (fun k hk => Below.heap_alloc w _ k hk) (fun b hb => by simp [Ent.own] at hb; omega)
  exact ⟨by simp [hl'], .inr ⟨w.heap.size, len, cs.toArray, rfl, hst.base, heap_alloc_new w _, Nat.le_refl _, by unfold maxLen; omega, by simp [hl'], by rw [List.take_of_length_le (by simp [hl'])]⟩⟩
end Hx
end Go.Proofs.Ytjflbnbofedlkaa

/-
  Numbers of 64 bits without a sign, as naturals.
-/


namespace Go.Proofs.Ytjflbnbofedlkaa
namespace Hx
open Go Go.RowKit
set_option linter.unusedVariables false
set_option linter.unusedSimpArgs false
theorem wrapN {n : Nat} (h : n < 18446744073709551616) : IntKind.u64.wrap (n : Int) = n := by rw [IntKind.wrap_u64]; omega
section
variable {P : Program} {N : Fr} {B : Nat} {w0 : World} {al : AL} {H : HL} {ty : TypeId} {x y : Operand} {t t' : TypeId} {a b : Nat} {k : IntKind}
theorem r_addN (hx : ev al x = some (.int .u64 (a : Int))) (hy : ev al y = some (.int .u64 (b : Int))) (h : a + b < 18446744073709551616) : Runs P N B w0 (.binOp .add t x y t') ty al H (.int .u64 ((a + b : Nat) : Int)) :=
  r_addg _ hx hy (by rw [← Int.natCast_add]; exact wrapN h)
theorem r_mulN (hx : ev al x = some (.int .u64 (a : Int))) (hy : ev al y = some (.int .u64 (b : Int))) (h : a * b < 18446744073709551616) : Runs P N B w0 (.binOp .mul t x y t') ty al H (.int .u64 ((a * b : Nat) : Int)) :=
  r_mulg _ hx hy (by rw [← Int.natCast_mul]; exact wrapN h)
theorem r_subN (hx : ev al x = some (.int .u64 (a : Int))) (hy : ev al y = some (.int .u64 (b : Int))) (h : b ≤ a) (h2 : a < 18446744073709551616) : Runs P N B w0 (.binOp .sub t x y t') ty al H (.int .u64 ((a - b : Nat) : Int)) :=
  r_subg _ hx hy (by rw [← Int.ofNat_sub h]; exact wrapN (by omega))
theorem r_quoN (hx : ev al x = some (.int .u64 (a : Int))) (hy : ev al y = some (.int .u64 (b : Int))) (h : 0 < b) (h2 : a < 18446744073709551616) : Runs P N B w0 (.binOp .quo t x y t') ty al H (.int .u64 ((a / b : Nat) : Int)) := by
  have h3 : a / b ≤ a := Nat.div_le_self _ _
  exact r_quog hx hy (Int.natCast_nonneg _) (by omega) (by rw [← Int.natCast_ediv]; exact wrapN (by omega))
theorem r_remN (hx : ev al x = some (.int .u64 (a : Int))) (hy : ev al y = some (.int .u64 (b : Int))) (h : 0 < b) (h2 : a < 18446744073709551616) : Runs P N B w0 (.binOp .rem t x y t') ty al H (.int .u64 ((a % b : Nat) : Int)) := by
  have h3 : a % b ≤ a := Nat.mod_le _ _
  exact r_remg hx hy (Int.natCast_nonneg _) (by omega) (by rw [← Int.natCast_emod]; exact wrapN (by omega))
theorem r_and32N (hx : ev al x = some (.int .u64 (a : Int))) (hy : ev al y = some (.int .u64 4294967295)) (h : a < 18446744073709551616) : Runs P N B w0 (.binOp .and t x y t') ty al H (.int .u64 ((a % 4294967296 : Nat) : Int)) :=
  r_and32 _ hx hy (Int.natCast_nonneg _) (by omega) (by omega)
theorem r_shr32N (hx : ev al x = some (.int .u64 (a : Int))) (hy : ev al y = some (.int .u64 32)) : Runs P N B w0 (.binOp .shr t x y t') ty al H (.int .u64 ((a / 4294967296 : Nat) : Int)) :=
  r_shr32 _ hx hy (Int.natCast_nonneg _) (by omega)
theorem r_shrN (s : Nat) {n : Int} (hx : ev al x = some (.int .u64 (a : Int))) (hy : ev al y = some (.int k n)) (hn : n = s) (hs : s ≤ 64) : Runs P N B w0 (.binOp .shr t x y t') ty al H (.int .u64 ((a / 2 ^ s : Nat) : Int)) := fun ac w hst => by
  subst hn
  have h2 : (a : Int).fdiv (2 ^ s) = ((a / 2 ^ s : Nat) : Int) := by
    rw [Int.fdiv_eq_ediv_of_nonneg _ (Int.pow_nonneg (by decide)), Int.natCast_ediv, Int.natCast_pow]; rfl
  have h3 : min s IntKind.u64.bits = s := Nat.min_eq_left hs
  have h4 : ¬((s : Int) < 0) := by omega
  simp only [execOp, hst.regs.eval hx, hst.regs.eval hy, binOp_shr, Op.shift, eqGuard_shr, if_neg h4, Int.toNat_natCast, h3, h2, Sem.run_bind, Sem.run_pure, Result.andThen_ok]
theorem r_shlN (s : Nat) {n : Int} (hx : ev al x = some (.int .u64 (a : Int))) (hy : ev al y = some (.int k n)) (hn : n = s) (hs : s ≤ 64) (v : Nat) (hv : a * 2 ^ s % 18446744073709551616 = v) : Runs P N B w0 (.binOp .shl t x y t') ty al H (.int .u64 (v : Int)) := fun ac w hst => by
  subst hn
  have h2 : IntKind.u64.wrap ((a : Int) * 2 ^ s) = (v : Int) := by
    rw [IntKind.wrap_u64, ← hv, Int.natCast_emod, Int.natCast_mul, Int.natCast_pow]; rfl
  have h3 : min s IntKind.u64.bits = s := Nat.min_eq_left hs
  have h4 : ¬((s : Int) < 0) := by omega
  simp only [execOp, hst.regs.eval hx, hst.regs.eval hy, binOp_shl, Op.shift, eqGuard_shl, if_neg h4, Int.toNat_natCast, h3, h2, Sem.run_bind, Sem.run_pure, Result.andThen_ok]
theorem r_orN (s c : Nat) (hx : ev al x = some (.int .u64 (a : Int))) (hy : ev al y = some (.int .u64 (b : Int))) (ha : a = c * 2 ^ s) (hb : b < 2 ^ s) (h1 : a < 18446744073709551616) (h2 : b < 18446744073709551616) : Runs P N B w0 (.binOp .or t x y t') ty al H (.int .u64 ((a + b : Nat) : Int)) := fun ac w hst => by
  have h3 : bits .or .u64 (a : Int) (b : Int) = ((a + b : Nat) : Int) := by
    rw [bits_or_u64_nat a b h1 h2, ha, Nat.mul_comm, Nat.two_pow_add_eq_or_of_lt hb]
  simp only [execOp, hst.regs.eval hx, hst.regs.eval hy, eqGuard_or, binOp_or, intBits_or, h3, Sem.run_bind, Sem.run_pure, Result.andThen_ok]
theorem r_convN {src dst : TypeId} {k1 k2 : IntKind} (hx : ev al x = some (.int k1 (a : Int))) (hs : (P.underlying src).isSome = true) (hd : P.underlying dst = some (.int k2)) (hw : k2.wrap (a : Int) = a) :
    Runs P N B w0 (.convert src dst x) ty al H (.int k2 (a : Int)) := r_convg _ hx hs hd hw
end
end Hx
end Go.Proofs.Ytjflbnbofedlkaa

/-
  The quotient of a number of two words, by digits of 32 bits. No program stands here.
-/

namespace Go.Proofs.Ytjflbnbofedlkaa
set_option linter.unusedVariables false
/-- The quotient of one step. -/
def digQ (u d Y : Nat) : Nat := (u * 4294967296 + d) / Y
theorem dig_split (Y : Nat) : Y = Y / 4294967296 * 4294967296 + Y % 4294967296 := by omega
theorem dig_start {u d Y : Nat} (hY : 9223372036854775808 ≤ Y) (hY2 : Y < 18446744073709551616) (hu : u < Y) (hd : d < 4294967296) :
    u / (Y / 4294967296) * (Y / 4294967296) + u % (Y / 4294967296) = u ∧ digQ u d Y ≤ u / (Y / 4294967296) ∧ u / (Y / 4294967296) ≤ 4294967297 ∧ u % (Y / 4294967296) < Y / 4294967296 := by
  have hs := dig_split Y
  have hb : Y % 4294967296 < 4294967296 := Nat.mod_lt _ (by omega)
  have ha : 2147483648 ≤ Y / 4294967296 := by omega
  generalize Y / 4294967296 = a at *
  generalize Y % 4294967296 = b at *
  have h1 := Nat.div_add_mod u a
  have h2 := Nat.mod_lt u (show a > 0 by omega)
  rw [Nat.mul_comm] at h1
  refine ⟨h1, ?_, ?_, h2⟩
  · refine Nat.le_of_lt_succ ((Nat.div_lt_iff_lt_mul (by omega)).2 ?_)
    have e : (u / a + 1) * a = u / a * a + a := by rw [Nat.add_mul, Nat.one_mul]
    have h3 : u + 1 ≤ (u / a + 1) * a := by omega
    have h4 := Nat.mul_le_mul_right 4294967296 h3
    have h5 : (u / a + 1) * a * 4294967296 ≤ (u / a + 1) * Y := by
      rw [Nat.mul_assoc]; exact Nat.mul_le_mul_left (u / a + 1) (hs ▸ Nat.le_add_right _ _ : a * 4294967296 ≤ Y)
    rw [Nat.succ_eq_add_one]
    omega
  · refine Nat.le_of_lt_succ ((Nat.div_lt_iff_lt_mul (by omega)).2 ?_)
    rw [Nat.succ_eq_add_one]
    omega
theorem dig_mul (q Y : Nat) : q * Y = q * (Y / 4294967296) * 4294967296 + q * (Y % 4294967296) := by
  rw [Nat.mul_assoc, ← Nat.mul_add, ← dig_split]
theorem dig_dec {u d Y q r : Nat} (hY : 0 < Y) (hu : u < Y) (hd : d < 4294967296) (hs : q * (Y / 4294967296) + r = u) (ht : 4294967296 ≤ q ∨ 4294967296 * r + d < q * (Y % 4294967296)) : digQ u d Y < q := by
  refine (Nat.div_lt_iff_lt_mul hY).2 ?_
  rcases ht with h | h
  · have h1 := Nat.mul_le_mul_right Y h
    omega
  · rw [dig_mul q Y]
    generalize q * (Y / 4294967296) = x at *
    generalize q * (Y % 4294967296) = z at *
    omega
theorem dig_le {u d Y q r : Nat} (hY : 0 < Y) (hs : q * (Y / 4294967296) + r = u) (ht : q * (Y % 4294967296) ≤ 4294967296 * r + d) : q ≤ digQ u d Y := by
  refine (Nat.le_div_iff_mul_le hY).2 ?_
  rw [dig_mul q Y]
  generalize q * (Y / 4294967296) = x at *
  generalize q * (Y % 4294967296) = z at *
  omega
theorem dig_brk {Y q r d : Nat} (hq : q ≤ 4294967296) (hr : 4294967296 ≤ r) : q * (Y % 4294967296) ≤ 4294967296 * r + d := by
  have h1 : q * (Y % 4294967296) ≤ 4294967296 * 4294967296 := Nat.mul_le_mul hq (by omega)
  omega
theorem dig_low {q Y : Nat} (hq : q ≤ 4294967297) : q * (Y % 4294967296) ≤ 18446744073709551615 := by
  have h1 : q * (Y % 4294967296) ≤ 4294967297 * 4294967295 := Nat.mul_le_mul hq (by omega)
  omega
theorem dig_rest (u d Y : Nat) : digQ u d Y * Y + (u * 4294967296 + d) % Y = u * 4294967296 + d := by
  unfold digQ; exact Nat.div_add_mod' _ _
theorem digQ_lt {u d Y : Nat} (hu : u < Y) (hd : d < 4294967296) : digQ u d Y < 4294967296 := by
  refine (Nat.div_lt_iff_lt_mul (by omega)).2 ?_
  have h1 := Nat.mul_le_mul_right 4294967296 (show u + 1 ≤ Y from hu)
  rw [Nat.add_mul] at h1
  rw [Nat.mul_comm 4294967296 Y]
  omega
theorem div_two {hi lo y s : Nat} (hy : 0 < y) (hs : s ≤ 64) (hlo : lo < 18446744073709551616) :
    ∀ u, u = hi * 2 ^ s + lo / 2 ^ (64 - s) → ∀ t, t = lo * 2 ^ s % 18446744073709551616 → ∀ v, v = (u * 4294967296 + t / 4294967296) % (y * 2 ^ s) →
    digQ u (t / 4294967296) (y * 2 ^ s) * 4294967296 + digQ v (t % 4294967296) (y * 2 ^ s) = (hi * 18446744073709551616 + lo) / y ∧
    (v * 4294967296 + t % 4294967296) % (y * 2 ^ s) / 2 ^ s = (hi * 18446744073709551616 + lo) % y := by
  intro u hu t ht v hv
  have h2 : 0 < 2 ^ s := Nat.pow_pos (by omega)
  have hM : 2 ^ s * 2 ^ (64 - s) = 18446744073709551616 := by rw [← Nat.pow_add, Nat.add_sub_cancel' hs]
  have hut : u * 18446744073709551616 + t = (hi * 18446744073709551616 + lo) * 2 ^ s := by
    have e1 : lo / 2 ^ (64 - s) = lo * 2 ^ s / 18446744073709551616 := by
      rw [← hM, Nat.mul_comm (2 ^ s), Nat.mul_div_mul_right _ _ h2]
    have e2 := Nat.div_add_mod (lo * 2 ^ s) 18446744073709551616
    rw [hu, ht, e1, Nat.add_mul, Nat.add_mul, Nat.mul_right_comm]
    omega
  have e3 := dig_rest u (t / 4294967296) (y * 2 ^ s)
  rw [← hv] at e3
  have hall : (hi * 18446744073709551616 + lo) * 2 ^ s = (v * 4294967296 + t % 4294967296) + digQ u (t / 4294967296) (y * 2 ^ s) * 4294967296 * (y * 2 ^ s) := by
    rw [← hut, Nat.mul_right_comm (digQ _ _ _)]
    generalize digQ u (t / 4294967296) (y * 2 ^ s) * (y * 2 ^ s) = z at *
    omega
  have hY : 0 < y * 2 ^ s := Nat.mul_pos hy h2
  constructor
  · have h5 : (hi * 18446744073709551616 + lo) / y = (hi * 18446744073709551616 + lo) * 2 ^ s / (y * 2 ^ s) := (Nat.mul_div_mul_right _ _ h2).symm
    rw [h5, hall, Nat.add_mul_div_right _ _ hY, Nat.add_comm]
    rfl
  · have h6 : (v * 4294967296 + t % 4294967296) % (y * 2 ^ s) = (hi * 18446744073709551616 + lo) % y * 2 ^ s := by
      rw [← Nat.mul_mod_mul_right, hall, Nat.add_mul_mod_self_right]
    rw [h6, Nat.mul_div_cancel _ h2]
end Go.Proofs.Ytjflbnbofedlkaa

/-
  Quotients that are rounded up, and splits: plain part.
-/

namespace Go.Proofs.Ytjflbnbofedlkaa
open Go Go.RowKit Hx
set_option linter.unusedVariables false
set_option linter.unusedSimpArgs false
/-- A quotient, rounded up. -/
def upD (x d : Int) : Int := (x + d - 1) / d
theorem upD_eq {x d : Int} (hd : 1 ≤ d) : x / d + (if 0 < x % d then 1 else 0) = upD x d := by
  unfold upD
  have h1 := Int.emod_nonneg x (show d ≠ 0 by omega)
  have h2 := Int.emod_lt_of_pos x (show 0 < d by omega)
  have h3 := Int.mul_ediv_add_emod x d
  split
  · have e : x + d - 1 = (x % d - 1) + d * (x / d + 1) := by rw [Int.mul_add]; omega
    have e0 : (x % d - 1) / d = 0 := Int.ediv_eq_zero_of_lt (by omega) (by omega)
    rw [e, Int.add_mul_ediv_left _ _ (show d ≠ 0 by omega), e0]; omega
  · have e : x + d - 1 = (d - 1) + d * (x / d) := by omega
    have e0 : (d - 1) / d = 0 := Int.ediv_eq_zero_of_lt (by omega) (by omega)
    rw [e, Int.add_mul_ediv_left _ _ (show d ≠ 0 by omega), e0]; omega
theorem upD_mono {x y d : Int} (hd : 1 ≤ d) (h : x ≤ y) : upD x d ≤ upD y d := Int.ediv_le_ediv (by omega) (by omega)
theorem upD_bd {x d n : Int} (h0 : 0 ≤ x) (hd : 1 ≤ d) (h : x ≤ n * d) : 0 ≤ upD x d ∧ upD x d ≤ n := by
  unfold upD
  refine ⟨Int.ediv_nonneg (by omega) (by omega), ?_⟩
  have : (x + d - 1) / d < n + 1 := Int.ediv_lt_of_lt_mul (by omega) (by rw [Int.add_mul]; omega)
  omega
structure SplitR where
  way : Int
  at_ : Int
section
variable (ss : List SmpR) (way : Int)
noncomputable def spN (k : Nat) : Nat := (wayN ss k / way).toNat
noncomputable def splJ (k j : Nat) : SplitR := match ss[k]?, ss[k + 1]? with
  | some p, some q => ⟨((j : Int) + 1) * way, 1000 * p.at_ + upD ((((j : Int) + 1) * way - wayN ss k) * (1000 * (q.at_ - p.at_))) (wayN ss (k + 1) - wayN ss k)⟩
  | _, _ => ⟨0, 0⟩
noncomputable def splK : Nat → List SplitR
  | 0 => []
  | k + 1 => splK k ++ (List.range' (spN ss way k) (spN ss way (k + 1) - spN ss way k)).map (splJ ss way k)
noncomputable def midK (k m : Nat) : List SplitR := splK ss way k ++ (List.range' (spN ss way k) m).map (splJ ss way k)
variable {ss way}
theorem midK_zero (k : Nat) : midK ss way k 0 = splK ss way k := by simp [midK]
theorem midK_succ (k m : Nat) : midK ss way k (m + 1) = midK ss way k m ++ [splJ ss way k (spN ss way k + m)] := by
  unfold midK
  rw [List.range'_concat, List.map_append, List.append_assoc, Nat.one_mul]; rfl
theorem midK_done (k : Nat) : midK ss way k (spN ss way (k + 1) - spN ss way k) = splK ss way (k + 1) := rfl
theorem splJ_eq {k : Nat} {p q : SmpR} (hp : ss[k]? = some p) (hq : ss[k + 1]? = some q) (j : Nat) :
    splJ ss way k j = ⟨((j : Int) + 1) * way, 1000 * p.at_ + upD ((((j : Int) + 1) * way - wayN ss k) * (1000 * (q.at_ - p.at_))) (wayN ss (k + 1) - wayN ss k)⟩ := by unfold splJ; rw [hp, hq]
theorem atI_le {st : Int} {k : Nat} {p q : SmpR} (hok : SmpOk st ss) (hp : ss[k]? = some p) (hq : ss[k + 1]? = some q) : 0 ≤ p.at_ ∧ p.at_ < q.at_ ∧ q.at_ ≤ 1000000 :=
  ⟨(hok.bd p (List.mem_of_getElem? hp)).1, hok.rise k p q hp hq, (hok.bd q (List.mem_of_getElem? hq)).2.1⟩
variable {st : Int} (hok : SmpOk st ss) (hw : 1 ≤ way)
include hok hw
theorem spN_eq (k : Nat) : ((spN ss way k : Nat) : Int) = wayN ss k / way := by
  have h1 := wayN_bd hok k
  have h2 : 0 ≤ wayN ss k / way := Int.ediv_nonneg h1.1 (by omega)
  unfold spN
  omega
theorem spN_mono {i j : Nat} (h : i ≤ j) : spN ss way i ≤ spN ss way j := by
  have h1 := wayN_mono hok h
  have h2 : wayN ss i / way ≤ wayN ss j / way := Int.ediv_le_ediv (by omega) h1
  have h3 := spN_eq hok hw i
  have h4 := spN_eq hok hw j
  omega
theorem splK_len : ∀ k, (splK ss way k).length = spN ss way k
  | 0 => by
    have h3 := spN_eq hok hw 0
    rw [wayN_zero] at h3
    simp at h3
    rw [show (splK ss way 0) = [] from rfl]
    simp
    omega
  | k + 1 => by
    rw [splK, List.length_append, List.length_map, List.length_range', splK_len k]
    have := spN_mono hok hw (show k ≤ k + 1 by omega)
    omega
theorem midK_len (k m : Nat) : (midK ss way k m).length = spN ss way k + m := by
  unfold midK
  rw [List.length_append, List.length_map, List.length_range', splK_len hok hw k]
/-- A split lies in the step: as both programs ask. -/
theorem spN_cond (k j : Nat) : ((j : Int) + 1) * way ≤ wayN ss k ↔ j < spN ss way k := by
  have h3 := spN_eq hok hw k
  rw [← Int.le_ediv_iff_mul_le (by omega), ← h3]
  omega
theorem spN_above {k j : Nat} (h : spN ss way k ≤ j) : wayN ss k < ((j : Int) + 1) * way := by
  have h1 := spN_cond hok hw k j
  have h2 : ¬ ((j : Int) + 1) * way ≤ wayN ss k := fun h3 => by have := h1.1 h3; omega
  omega
theorem split_bd {k j : Nat} {p q : SmpR} (hp : ss[k]? = some p) (hq : ss[k + 1]? = some q) (h1 : spN ss way k ≤ j) (h2 : j < spN ss way (k + 1)) :
    1 ≤ ((j : Int) + 1) * way - wayN ss k ∧ ((j : Int) + 1) * way - wayN ss k ≤ wayN ss (k + 1) - wayN ss k ∧ wayN ss (k + 1) - wayN ss k ≤ 300000000 ∧
    0 ≤ (((j : Int) + 1) * way - wayN ss k) * (1000 * (q.at_ - p.at_)) ∧ 0 ≤ upD ((((j : Int) + 1) * way - wayN ss k) * (1000 * (q.at_ - p.at_))) (wayN ss (k + 1) - wayN ss k) ∧
    upD ((((j : Int) + 1) * way - wayN ss k) * (1000 * (q.at_ - p.at_))) (wayN ss (k + 1) - wayN ss k) ≤ 1000 * (q.at_ - p.at_) := by
  have a1 := spN_above hok hw h1
  have a2 := (spN_cond hok hw (k + 1) j).2 h2
  have a3 := wayN_succ (stepsL_get hp hq)
  have a4 := lenD_bd (hok.place (List.mem_of_getElem? hp)) (hok.place (List.mem_of_getElem? hq))
  have a5 := atI_le hok hp hq
  have a6 : 0 ≤ (((j : Int) + 1) * way - wayN ss k) * (1000 * (q.at_ - p.at_)) := Int.mul_nonneg (by omega) (by omega)
  have a7 : (((j : Int) + 1) * way - wayN ss k) * (1000 * (q.at_ - p.at_)) ≤ (wayN ss (k + 1) - wayN ss k) * (1000 * (q.at_ - p.at_)) := Int.mul_le_mul_of_nonneg_right (by omega) (by omega)
  have a8 := upD_bd a6 (show 1 ≤ wayN ss (k + 1) - wayN ss k by omega) (n := 1000 * (q.at_ - p.at_)) (by rw [Int.mul_comm (1000 * _)]; exact a7)
  refine ⟨by omega, by omega, ?_, a6, a8.1, a8.2⟩
  rw [a3]
  have : lenD (p, q).1 (p, q).2 = lenD p q := rfl
  omega
end
def SpOk (way : Int) (l : List SplitR) (T : Int) : Prop := ∀ (i : Nat) (x : SplitR), l[i]? = some x → x.way = ((i : Int) + 1) * way ∧ 0 ≤ x.at_ ∧ x.at_ ≤ T ∧ ∀ y, 1 ≤ i → l[i - 1]? = some y → y.at_ ≤ x.at_
theorem spOk_nil (way T : Int) : SpOk way [] T := fun i x h => by simp at h
theorem SpOk.le {way T T' : Int} {l : List SplitR} (h : SpOk way l T) (hT : T ≤ T') : SpOk way l T' := fun i x hx => by
  obtain ⟨h1, h2, h3, h4⟩ := h i x hx
  exact ⟨h1, h2, Int.le_trans h3 hT, h4⟩
theorem SpOk.snoc {way T : Int} {l : List SplitR} {x : SplitR} (h : SpOk way l T) (h1 : x.way = ((l.length : Int) + 1) * way) (h2 : T ≤ x.at_) (h0 : 0 ≤ x.at_) : SpOk way (l ++ [x]) x.at_ := by
  intro i y hy
  have hi := (List.getElem?_eq_some_iff.1 hy).1
  rw [List.length_append, List.length_singleton] at hi
  by_cases hl : i < l.length
  · rw [List.getElem?_append_left hl] at hy
    obtain ⟨b1, b2, b3, b4⟩ := h i y hy
    exact ⟨b1, b2, by omega, fun z hz hzz => b4 z hz (by rw [List.getElem?_append_left (by omega)] at hzz; exact hzz)⟩
  · have he : i = l.length := by omega
    subst he
    rw [List.getElem?_concat_length] at hy
    cases hy
    refine ⟨h1, h0, Int.le_refl _, fun z hz hzz => ?_⟩
    rw [List.getElem?_append_left (by omega)] at hzz
    have := (h _ z hzz).2.2.1
    omega
theorem midK_ok {ss : List SmpR} {way st : Int} (hok : SmpOk st ss) (hw : 1 ≤ way) {k : Nat} {p q : SmpR} (hp : ss[k]? = some p) (hq : ss[k + 1]? = some q) (h : SpOk way (splK ss way k) (1000 * p.at_)) :
    ∀ m, spN ss way k + m ≤ spN ss way (k + 1) → ∃ T, SpOk way (midK ss way k m) T ∧ T ≤ 1000 * q.at_ ∧ (m = 0 → T = 1000 * p.at_) ∧ (∀ m', m = m' + 1 → T = (splJ ss way k (spN ss way k + m')).at_)
  | 0, _ => by
    have := atI_le hok hp hq
    exact ⟨1000 * p.at_, by rw [midK_zero]; exact h, by omega, fun _ => rfl, fun m' h => by omega⟩
  | m + 1, hm => by
    obtain ⟨T, t1, t2, t3, t4⟩ := midK_ok hok hw hp hq h m (by omega)
    have b := split_bd hok hw hp hq (j := spN ss way k + m) (by omega) (by omega)
    have a5 := atI_le hok hp hq
    have e := splJ_eq (way := way) hp hq (spN ss way k + m)
    have hT : T ≤ (splJ ss way k (spN ss way k + m)).at_ := by
      cases m with
      | zero => rw [t3 rfl, e]; dsimp only; omega
      | succ m' =>
        rw [t4 m' rfl, e, splJ_eq hp hq]
        dsimp only
        have b0 := split_bd hok hw hp hq (j := spN ss way k + m') (by omega) (by omega)
        have : upD (((((spN ss way k + m' : Nat) : Int) + 1) * way - wayN ss k) * (1000 * (q.at_ - p.at_))) (wayN ss (k + 1) - wayN ss k) ≤ upD (((((spN ss way k + (m' + 1) : Nat) : Int) + 1) * way - wayN ss k) * (1000 * (q.at_ - p.at_))) (wayN ss (k + 1) - wayN ss k) := by
          refine upD_mono (by omega) (Int.mul_le_mul_of_nonneg_right ?_ (by omega))
          have : (((spN ss way k + m' : Nat) : Int) + 1) * way ≤ (((spN ss way k + (m' + 1) : Nat) : Int) + 1) * way := Int.mul_le_mul_of_nonneg_right (by omega) (by omega)
          omega
        omega
    refine ⟨(splJ ss way k (spN ss way k + m)).at_, ?_, ?_, fun h => by omega, fun m' hm' => by rw [show m' = m by omega]⟩
    · rw [midK_succ]
      refine t1.snoc ?_ hT ?_
      · rw [e, midK_len hok hw]
      · rw [e]; dsimp only; omega
    · rw [e]; dsimp only; omega
theorem splK_ok {ss : List SmpR} {way st : Int} (hok : SmpOk st ss) (hw : 1 ≤ way) : ∀ (k : Nat) (p : SmpR), ss[k]? = some p → SpOk way (splK ss way k) (1000 * p.at_)
  | 0, p, hp => spOk_nil _ _
  | k + 1, q, hq => by
    have hlt := (List.getElem?_eq_some_iff.1 hq).1
    have hp : ss[k]? = some (ss[k]'(by omega)) := List.getElem?_eq_getElem _
    obtain ⟨T, t1, t2, _⟩ := midK_ok hok hw hp hq (splK_ok hok hw k _ hp) (spN ss way (k + 1) - spN ss way k) (by have := spN_mono hok hw (show k ≤ k + 1 by omega); omega)
    rw [midK_done] at t1
    exact t1.le t2
noncomputable def splitsR (a : ActD) (way : Int) : List SplitR × Int :=
  if chkA a ≠ 0 then ([], chkA a) else if ¬(1 ≤ way ∧ way ≤ 1000000000) then ([], 9) else if 10000 < wayN a.ss (a.ss.length - 1) / way then ([], 3) else (splK a.ss way (a.ss.length - 1), 0)
theorem splitsR_e {a : ActD} {f : Int} (h : chkA a ≠ 0) : splitsR a f = ([], chkA a) := if_pos h
theorem splitsR_9 {a : ActD} {f : Int} (h : chkA a = 0) (h1 : ¬(1 ≤ f ∧ f ≤ 1000000000)) : splitsR a f = ([], 9) := by unfold splitsR; rw [if_neg (by simp [h]), if_pos h1]
theorem splitsR_3 {a : ActD} {f : Int} (h : chkA a = 0) (h1 : 1 ≤ f ∧ f ≤ 1000000000) (h2 : 10000 < wayN a.ss (a.ss.length - 1) / f) : splitsR a f = ([], 3) := by unfold splitsR; rw [if_neg (by simp [h]), if_neg (fun h3 => h3 h1), if_pos h2]
theorem splitsR_0 {a : ActD} {f : Int} (h : chkA a = 0) (h1 : 1 ≤ f ∧ f ≤ 1000000000) (h2 : ¬10000 < wayN a.ss (a.ss.length - 1) / f) : splitsR a f = (splK a.ss f (a.ss.length - 1), 0) := by
  unfold splitsR; rw [if_neg (by simp [h]), if_neg (fun h3 => h3 h1), if_neg h2]
end Go.Proofs.Ytjflbnbofedlkaa

/-
  slices.IndexFunc and ContainsFunc, at any function that only reads.
-/


namespace Go.Proofs.Ytjflbnbofedlkaa
open Go Go.RowKit Hx
set_option linter.unusedVariables false
set_option linter.unusedSimpArgs false
/-- The first place at which p holds, or -1. -/
def idxP {α : Type} (p : α → Bool) (xs : List α) : Int := match xs.findIdx? p with | some i => i | none => -1
theorem idxP_at {α : Type} {p : α → Bool} {xs : List α} {k : Nat} {x : α} (h : xs[k]? = some x) (hp : p x = true) (h2 : ∀ y ∈ xs.take k, p y = false) : idxP p xs = k := by
  have : xs.findIdx? p = some k := by
    rw [List.findIdx?_eq_some_iff_getElem]
    obtain ⟨hk, rfl⟩ := List.getElem?_eq_some_iff.1 h
    refine ⟨hk, hp, fun j hj => ?_⟩
    have : xs[j]'(by omega) ∈ xs.take k := by
      rw [List.mem_take_iff_getElem]
      exact ⟨j, by omega, rfl⟩
    simp [h2 _ this]
  simp [idxP, this]
theorem idxP_no {α : Type} {p : α → Bool} {xs : List α} (h2 : ∀ y ∈ xs, p y = false) : idxP p xs = -1 := by
  have : xs.findIdx? p = none := by
    rw [List.findIdx?_eq_none_iff]
    intro y hy
    simp [h2 y hy]
  simp [idxP, this]
theorem idxP_any {α : Type} (p : α → Bool) (xs : List α) : decide (0 ≤ idxP p xs) = xs.any p := by
  unfold idxP
  cases h : xs.findIdx? p with
  | none =>
    rw [List.findIdx?_eq_none_iff] at h
    have : xs.any p = false := by rw [List.any_eq_false]; intro y hy; simp [h y hy]
    simp [this]
  | some i =>
    rw [List.findIdx?_eq_some_iff_getElem] at h
    obtain ⟨hi, hp, _⟩ := h
    have : xs.any p = true := by rw [List.any_eq_true]; exact ⟨_, List.getElem_mem hi, hp⟩
    rw [this]; simp
end Go.Proofs.Ytjflbnbofedlkaa

/-
  Root, squares, lengths of steps: program and reference.
-/


namespace Go.Proofs.Ytjflbnbofedlkaa
open Go Go.RowKit Hx
set_option linter.unusedVariables false
set_option linter.unusedSimpArgs false
set_option maxRecDepth 8000
theorem wrap_sq {x : Int} (h : 0 ≤ x ∧ x ≤ 18446744073709551615) : IntKind.i64.wrap x = if x ≤ 9223372036854775807 then x else x - 18446744073709551616 := by
  rw [IntKind.wrap_i64]
  split <;> omega
theorem r_mulw {P : Program} {N : Fr} {B : Nat} {w0 : World} {al : AL} {H : HL} {ty : TypeId} {x y : Operand} {t t' : TypeId} {m n : Int} (hx : ev al x = some (.int .i64 m)) (hy : ev al y = some (.int .i64 n)) :
    Runs P N B w0 (.binOp .mul t x y t') ty al H (.int .i64 (IntKind.i64.wrap (m * n))) := fun a w hst => by
  simp [execOp, hst.regs.eval hx, hst.regs.eval hy, eqGuard_mul, binOp_mul, Op.intArith]
/-- What Step returns. -/
noncomputable def stepD (p q : SmpR) : Int × Int := open Classical in if PlaceOk p ∧ PlaceOk q then (lenD p q, 0) else (0, 9)
theorem stepD_ok {p q : SmpR} (hp : PlaceOk p) (hq : PlaceOk q) : stepD p q = (lenD p q, 0) := if_pos ⟨hp, hq⟩
theorem stepD_no {p q : SmpR} (h : ¬(PlaceOk p ∧ PlaceOk q)) : stepD p q = (0, 9) := if_neg h
end Go.Proofs.Ytjflbnbofedlkaa

/-
  Scale: products over quotients, for numbers that are not too large; rounded up.
-/




namespace Go.Proofs.Ytjflbnbofedlkaa
open Go Go.RowKit Hx
set_option linter.unusedVariables false
set_option linter.unusedSimpArgs false
set_option maxRecDepth 8000
theorem bits_Mul64 (x y : Int) (w : World) (hx : 0 ≤ x ∧ x ≤ 4294967295) (hy : 0 ≤ y ∧ y ≤ 4294967295) (hxy : 0 ≤ x * y ∧ x * y ≤ 9223372036854775807) :
    Calls Try.prog 130 #[.int .u64 x, .int .u64 y] w fun e w' => e = .returned (.tuple #[.int .u64 0, .int .u64 (x * y)]) ∧ Below w.heap.size w w' := by
  refine enterQ (N := 51) (C := fun _ => True) (H := []) (B := w.heap.size) (args := [_, _]) Try.func130 rfl rfl rfl (Nat.le_refl _) (Sat.nil _ _) fun Q hQ => ?_
  refine wp_seq' fun K1 hK1 => ?_
  refine wp_reg ?_
  refine ol_r (r_assign rfl) rfl ?_
  refine ol_r (r_assign rfl) rfl ?_
  refine ol_nil (to_k0 (fun _ _ h => h) (hK1 _ _ _ _ _ ?_))
  clear hK1
  refine wp_seq' fun K2 hK2 => ?_
  refine wp_reg ?_
  refine ol_r (r_move rfl) rfl ?_
  refine ol_r (r_and32 x rfl rfl (by omega) (by omega) (by omega)) rfl ?_
  refine ol_r (r_assign rfl) rfl ?_
  refine ol_nil (to_k0 (fun _ _ h => h) (hK2 _ _ _ _ _ ?_))
  clear hK2
  refine wp_seq' fun K3 hK3 => ?_
  refine wp_reg ?_
  refine ol_r (r_move rfl) rfl ?_
  refine ol_r (r_shr32 0 rfl rfl (by omega) (by omega)) rfl ?_
  refine ol_r (r_assign rfl) rfl ?_
  refine ol_nil (to_k0 (fun _ _ h => h) (hK3 _ _ _ _ _ ?_))
  clear hK3
  refine wp_seq' fun K4 hK4 => ?_
  refine wp_reg ?_
  refine ol_r (r_move rfl) rfl ?_
  refine ol_r (r_and32 y rfl rfl (by omega) (by omega) (by omega)) rfl ?_
  refine ol_r (r_assign rfl) rfl ?_
  refine ol_nil (to_k0 (fun _ _ h => h) (hK4 _ _ _ _ _ ?_))
  clear hK4
  refine wp_seq' fun K5 hK5 => ?_
  refine wp_reg ?_
  refine ol_r (r_move rfl) rfl ?_
  refine ol_r (r_shr32 0 rfl rfl (by omega) (by omega)) rfl ?_
  refine ol_r (r_assign rfl) rfl ?_
  refine ol_nil (to_k0 (fun _ _ h => h) (hK5 _ _ _ _ _ ?_))
  clear hK5
  refine wp_seq' fun K6 hK6 => ?_
  refine wp_reg ?_
  refine ol_r (r_move rfl) rfl ?_
  refine ol_r (r_move rfl) rfl ?_
  refine ol_r (r_mulg (x * y) rfl rfl (wrap_u64 (by omega))) rfl ?_
  refine ol_r (r_assign rfl) rfl ?_
  refine ol_nil (to_k0 (fun _ _ h => h) (hK6 _ _ _ _ _ ?_))
  clear hK6
  refine wp_seq' fun K7 hK7 => ?_
  refine wp_reg ?_
  refine ol_r (r_move rfl) rfl ?_
  refine ol_r (r_move rfl) rfl ?_
  refine ol_r (r_mulg 0 rfl rfl (by rw [Int.zero_mul]; exact wrap_u64 (by omega))) rfl ?_
  refine ol_r (r_move rfl) rfl ?_
  refine ol_r (r_shr32 (x * y / 4294967296) rfl rfl (by omega) rfl) rfl ?_
  refine ol_r (r_addg (x * y / 4294967296) rfl rfl (by rw [Int.zero_add]; exact wrap_u64 (by omega))) rfl ?_
  refine ol_r (r_assign rfl) rfl ?_
  refine ol_nil (to_k0 (fun _ _ h => h) (hK7 _ _ _ _ _ ?_))
  clear hK7
  refine wp_seq' fun K8 hK8 => ?_
  refine wp_reg ?_
  refine ol_r (r_move rfl) rfl ?_
  refine ol_r (r_and32 (x * y / 4294967296) rfl rfl (by omega) (by omega) (by omega)) rfl ?_
  refine ol_r (r_assign rfl) rfl ?_
  refine ol_nil (to_k0 (fun _ _ h => h) (hK8 _ _ _ _ _ ?_))
  clear hK8
  refine wp_seq' fun K9 hK9 => ?_
  refine wp_reg ?_
  refine ol_r (r_move rfl) rfl ?_
  refine ol_r (r_shr32 0 rfl rfl (by omega) (by omega)) rfl ?_
  refine ol_r (r_assign rfl) rfl ?_
  refine ol_nil (to_k0 (fun _ _ h => h) (hK9 _ _ _ _ _ ?_))
  clear hK9
  refine wp_seq' fun K10 hK10 => ?_
  refine wp_reg ?_
  refine ol_r (r_move rfl) rfl ?_
  refine ol_r (r_move rfl) rfl ?_
  refine ol_r (r_move rfl) rfl ?_
  refine ol_r (r_mulg 0 rfl rfl (by rw [Int.mul_zero]; exact wrap_u64 (by omega))) rfl ?_
  refine ol_r (r_addg (x * y / 4294967296) rfl rfl (by rw [Int.add_zero]; exact wrap_u64 (by omega))) rfl ?_
  refine ol_r (r_assign rfl) rfl ?_
  refine ol_nil (to_k0 (fun _ _ h => h) (hK10 _ _ _ _ _ ?_))
  clear hK10
  refine wp_seq' fun K11 hK11 => ?_
  refine wp_reg ?_
  refine ol_r (r_move rfl) rfl ?_
  refine ol_r (r_move rfl) rfl ?_
  refine ol_r (r_mulg 0 rfl rfl (by rw [Int.zero_mul]; exact wrap_u64 (by omega))) rfl ?_
  refine ol_r (r_move rfl) rfl ?_
  refine ol_r (r_addg 0 rfl rfl (by rw [Int.zero_add]; exact wrap_u64 (by omega))) rfl ?_
  refine ol_r (r_move rfl) rfl ?_
  refine ol_r (r_shr32 0 rfl rfl (by omega) (by omega)) rfl ?_
  refine ol_r (r_addg 0 rfl rfl (by rw [Int.zero_add]; exact wrap_u64 (by omega))) rfl ?_
  refine ol_r (r_assign rfl) rfl ?_
  refine ol_nil (to_k0 (fun _ _ h => h) (hK11 _ _ _ _ _ ?_))
  clear hK11
  refine wp_seq' fun K12 hK12 => ?_
  refine wp_reg ?_
  refine ol_r (r_move rfl) rfl ?_
  refine ol_r (r_move rfl) rfl ?_
  refine ol_r (r_mulg (x * y) rfl rfl (wrap_u64 (by omega))) rfl ?_
  refine ol_r (r_assign rfl) rfl ?_
  refine ol_nil (to_k0 (fun _ _ h => h) (hK12 _ _ _ _ _ ?_))
  clear hK12
  refine hQ.ret (rvs2 (rv_t rfl) (rv_t rfl)) (fun _ _ h => h) fun w hb hs hB hkd => ?_
  exact ⟨rfl, hb⟩
theorem bits_Div64 (x y : Int) (w : World) (hx : 0 ≤ x ∧ x ≤ 9223372036854775807) (hy : 1 ≤ y ∧ y ≤ 9223372036854775807) :
    Calls Try.prog 135 #[.int .u64 0, .int .u64 x, .int .u64 y] w fun e w' => e = .returned (.tuple #[.int .u64 (x / y), .int .u64 (x % y)]) ∧ Below w.heap.size w w' := by
  have hq : 0 ≤ x / y := Int.ediv_nonneg hx.1 (by omega)
  have hq2 : x / y ≤ x := Int.ediv_le_self _ hx.1
  have hr : 0 ≤ x % y := Int.emod_nonneg _ (by omega)
  have hr2 : x % y < y := Int.emod_lt_of_pos _ (by omega)
  refine enterQ (N := 135) (C := fun _ => True) (H := []) (B := w.heap.size) (args := [_, _, _]) Try.func135 rfl rfl rfl (Nat.le_refl _) (Sat.nil _ _) fun Q hQ => ?_
  refine wp_seq' fun K1 hK1 => ?_
  refine wp_reg ?_
  refine ol_r (r_assign rfl) rfl ?_
  refine ol_r (r_assign rfl) rfl ?_
  refine ol_nil (to_k0 (fun _ _ h => h) (hK1 _ _ _ _ _ ?_))
  clear hK1
  refine wp_seq' fun K2 hK2 => ?_
  refine wp_seq' fun K3 hK3 => ?_
  refine wp_reg ?_
  refine ol_r (r_move rfl) rfl ?_
  refine ol_r (r_eql rfl rfl) rfl ?_
  refine ol_nil (to_k0 (fun _ _ h => h) (hK3 _ _ _ _ _ ?_))
  clear hK3
  refine wp_condD rfl (fun hc20 => ?_) (fun hc20 => ?_)
  ·exfalso
   omega
  ·refine wp_skip' (to_k0 (fun _ _ h => h) (hK2 _ _ _ _ _ ?_))
   clear hK2
   refine wp_seq' fun K4 hK4 => ?_
   refine wp_seq' fun K5 hK5 => ?_
   refine wp_reg ?_
   refine ol_r (r_move rfl) rfl ?_
   refine ol_r (r_move rfl) rfl ?_
   refine ol_r (r_leq rfl rfl) rfl ?_
   refine ol_nil (to_k0 (fun _ _ h => h) (hK5 _ _ _ _ _ ?_))
   clear hK5
   refine wp_condD rfl (fun hc24 => ?_) (fun hc24 => ?_)
   ·exfalso
    omega
   ·refine wp_skip' (to_k0 (fun _ _ h => h) (hK4 _ _ _ _ _ ?_))
    clear hK4
    refine wp_seq' fun K6 hK6 => ?_
    refine wp_seq' fun K7 hK7 => ?_
    refine wp_reg ?_
    refine ol_r (r_move rfl) rfl ?_
    refine ol_r (r_eql rfl rfl) rfl ?_
    refine ol_nil (to_k0 (fun _ _ h => h) (hK7 _ _ _ _ _ ?_))
    clear hK7
    refine wp_condD rfl (fun hc27 => ?_) (fun hc27 => ?_)
    ·refine wp_seq' fun K8 hK8 => ?_
     refine wp_regq (by kernel_rfl) (by kernel_rfl) ?_
     refine ql_r (r_move rfl) rfl ?_
     refine ql_r (r_move rfl) rfl ?_
     refine ql_r (r_quog rfl rfl (by omega) (by omega) (wrap_u64 (by omega))) rfl ?_
     refine ql_r (r_move rfl) rfl ?_
     refine ql_r (r_move rfl) rfl ?_
     refine ql_r (r_remg rfl rfl (by omega) (by omega) (wrap_u64 (by omega))) rfl ?_
     refine ql_r (r_assign rfl) rfl ?_
     refine ql_r (r_assign rfl) rfl ?_
     refine ql_nil (to_k0 (fun _ _ h => h) (hK8 _ _ _ _ _ ?_))
     clear hK8
     refine hQ.ret (rvs2 (rv_t rfl) (rv_t rfl)) (fun _ _ h => h) fun w hb hs hB hkd => ?_
     exact ⟨rfl, hb⟩
    ·exfalso
     omega
theorem cmp_isNaNu (x : Int) (w : World) : Calls Try.prog 147 #[.int .u64 x] w fun e w' => e = .returned (.bool false) ∧ Below w.heap.size w w' := by
  refine enterQ (N := 6) (C := fun _ => True) (H := []) (B := w.heap.size) (args := [_]) Try.func147 rfl rfl rfl (Nat.le_refl _) (Sat.nil _ _) fun Q hQ => ?_
  refine wp_seq' fun K1 hK1 => ?_
  refine wp_reg ?_
  refine ol_r (r_assign rfl) rfl ?_
  refine ol_nil (to_k0 (fun _ _ h => h) (hK1 _ _ _ _ _ ?_))
  clear hK1
  refine wp_seq' fun K2 hK2 => ?_
  refine wp_reg ?_
  refine ol_r (r_move rfl) rfl ?_
  refine ol_r (r_move rfl) rfl ?_
  refine ol_r (r_neq rfl rfl) rfl ?_
  refine ol_r (r_assign rfl) rfl ?_
  refine ol_nil (to_k0 (fun _ _ h => h) (hK2 _ _ _ _ _ ?_))
  clear hK2
  refine hQ.ret (rvs1 (rv_t rfl)) (fun _ _ h => h) fun w hb hs hB hkd => ?_
  exact ⟨by simp, hb⟩
def cmpI (x y : Int) : Int := if x < y then -1 else if y < x then 1 else 0
theorem cmp_Compareu (x y : Int) (w : World) : Calls Try.prog 131 #[.int .u64 x, .int .u64 y] w fun e w' => e = .returned (.int .i64 (cmpI x y)) ∧ Below w.heap.size w w' := by
  refine enterQ (N := 20) (C := fun _ => True) (H := []) (B := w.heap.size) (args := [_, _]) Try.func131 rfl rfl rfl (Nat.le_refl _) (Sat.nil _ _) fun Q hQ => ?_
  refine wp_seq' fun K1 hK1 => ?_
  refine wp_reg ?_
  refine ol_r (r_assign rfl) rfl ?_
  refine ol_nil (to_k0 (fun _ _ h => h) (hK1 _ _ _ _ _ ?_))
  clear hK1
  refine wp_seq' fun K2 hK2 => ?_
  refine wp_reg ?_
  refine ol_r (r_move rfl) rfl ?_
  refine ol_call rfl rfl cb147 rfl (fun w1 hb1 hs1 hB1 => Calls.mono (cmp_isNaNu _ _) ?_)
  rintro e w2 ⟨rfl, hb2⟩
  refine After.below rfl hb1 hs1 hB1 hb2 ?_
  clear hb2 hB1 hs1 hb1 w2 w1
  refine ol_r (r_assign rfl) rfl ?_
  refine ol_nil (to_k0 (fun _ _ h => h) (hK2 _ _ _ _ _ ?_))
  clear hK2
  refine wp_seq' fun K3 hK3 => ?_
  refine wp_reg ?_
  refine ol_r (r_move rfl) rfl ?_
  refine ol_call rfl rfl cb147 rfl (fun w1 hb1 hs1 hB1 => Calls.mono (cmp_isNaNu _ _) ?_)
  rintro e w2 ⟨rfl, hb2⟩
  refine After.below rfl hb1 hs1 hB1 hb2 ?_
  clear hb2 hB1 hs1 hb1 w2 w1
  refine ol_r (r_assign rfl) rfl ?_
  refine ol_nil (to_k0 (fun _ _ h => h) (hK3 _ _ _ _ _ ?_))
  clear hK3
  refine wp_seq' fun K4 hK4 => ?_
  refine wp_seq' fun K5 hK5 => ?_
  refine wp_reg ?_
  refine ol_r (r_move rfl) rfl ?_
  refine ol_nil (to_k0 (fun _ _ h => h) (hK5 _ _ _ _ _ ?_))
  clear hK5
  refine wp_cond' rfl (fun hc11 => ?_) (fun hc11 => ?_)
  ·refine wp_seq' fun K6 hK6 => ?_
   refine wp_seq' fun K7 hK7 => ?_
   refine wp_reg ?_
   refine ol_r (r_move rfl) rfl ?_
   refine ol_nil (to_k0 (fun _ _ h => h) (hK7 _ _ _ _ _ ?_))
   clear hK7
   refine wp_cond' rfl (fun hc12 => ?_) (fun hc12 => ?_)
   ·refine wp_seq' fun K8 hK8 => ?_
    refine wp_reg ?_
    refine ol_r (r_assign rfl) rfl ?_
    refine ol_nil (to_k0 (fun _ _ h => h) (hK8 _ _ _ _ _ ?_))
    clear hK8
    refine hQ.ret (rvs1 (rv_t rfl)) (fun _ _ h => h) fun w hb hs hB hkd => ?_
    first
      | (exfalso; simp_all; done)
   ·refine wp_skip' (to_k0 (fun _ _ h => h) (hK6 _ _ _ _ _ ?_))
    clear hK6
    refine wp_seq' fun K9 hK9 => ?_
    refine wp_reg ?_
    refine ol_r (r_assign rfl) rfl ?_
    refine ol_nil (to_k0 (fun _ _ h => h) (hK9 _ _ _ _ _ ?_))
    clear hK9
    refine hQ.ret (rvs1 (rv_t rfl)) (fun _ _ h => h) fun w hb hs hB hkd => ?_
    first
      | (exfalso; simp_all; done)
  ·refine wp_skip' (to_k0 (fun _ _ h => h) (hK4 _ _ _ _ _ ?_))
   clear hK4
   refine wp_seq' fun K10 hK10 => ?_
   refine wp_seq' fun K11 hK11 => ?_
   refine wp_reg ?_
   refine ol_r (r_move rfl) rfl ?_
   refine ol_nil (to_k0 (fun _ _ h => h) (hK11 _ _ _ _ _ ?_))
   clear hK11
   refine wp_cond' rfl (fun hc13 => ?_) (fun hc13 => ?_)
   ·refine wp_seq' fun K12 hK12 => ?_
    refine wp_reg ?_
    refine ol_r (r_assign rfl) rfl ?_
    refine ol_nil (to_k0 (fun _ _ h => h) (hK12 _ _ _ _ _ ?_))
    clear hK12
    refine hQ.ret (rvs1 (rv_t rfl)) (fun _ _ h => h) fun w hb hs hB hkd => ?_
    first
      | (exfalso; simp_all; done)
   ·refine wp_skip' (to_k0 (fun _ _ h => h) (hK10 _ _ _ _ _ ?_))
    clear hK10
    refine wp_seq' fun K13 hK13 => ?_
    refine wp_seq' fun K14 hK14 => ?_
    refine wp_reg ?_
    refine ol_r (r_move rfl) rfl ?_
    refine ol_r (r_move rfl) rfl ?_
    refine ol_r (r_lss rfl rfl) rfl ?_
    refine ol_nil (to_k0 (fun _ _ h => h) (hK14 _ _ _ _ _ ?_))
    clear hK14
    refine wp_condD rfl (fun hc16 => ?_) (fun hc16 => ?_)
    ·refine wp_seq' fun K15 hK15 => ?_
     refine wp_reg ?_
     refine ol_r (r_assign rfl) rfl ?_
     refine ol_nil (to_k0 (fun _ _ h => h) (hK15 _ _ _ _ _ ?_))
     clear hK15
     refine hQ.ret (rvs1 (rv_t rfl)) (fun _ _ h => h) fun w hb hs hB hkd => ?_
     first
       | exact ⟨by unfold cmpI; rw [if_pos (by omega)], hb⟩
    ·refine wp_skip' (to_k0 (fun _ _ h => h) (hK13 _ _ _ _ _ ?_))
     clear hK13
     refine wp_seq' fun K16 hK16 => ?_
     refine wp_seq' fun K17 hK17 => ?_
     refine wp_reg ?_
     refine ol_r (r_move rfl) rfl ?_
     refine ol_r (r_move rfl) rfl ?_
     refine ol_r (r_gtr rfl rfl) rfl ?_
     refine ol_nil (to_k0 (fun _ _ h => h) (hK17 _ _ _ _ _ ?_))
     clear hK17
     refine wp_condD rfl (fun hc19 => ?_) (fun hc19 => ?_)
     ·refine wp_seq' fun K18 hK18 => ?_
      refine wp_reg ?_
      refine ol_r (r_assign rfl) rfl ?_
      refine ol_nil (to_k0 (fun _ _ h => h) (hK18 _ _ _ _ _ ?_))
      clear hK18
      refine hQ.ret (rvs1 (rv_t rfl)) (fun _ _ h => h) fun w hb hs hB hkd => ?_
      first
        | exact ⟨by unfold cmpI; rw [if_neg (by omega), if_pos (by omega)], hb⟩
     ·refine wp_skip' (to_k0 (fun _ _ h => h) (hK16 _ _ _ _ _ ?_))
      clear hK16
      refine wp_seq' fun K19 hK19 => ?_
      refine wp_reg ?_
      refine ol_r (r_assign rfl) rfl ?_
      refine ol_nil (to_k0 (fun _ _ h => h) (hK19 _ _ _ _ _ ?_))
      clear hK19
      refine hQ.ret (rvs1 (rv_t rfl)) (fun _ _ h => h) fun w hb hs hB hkd => ?_
      first
        | exact ⟨by unfold cmpI; rw [if_neg (by omega), if_neg (by omega)], hb⟩
/-- A way of rounding, as it lies. -/
def encWay : Enc (Int × FuncId) := { size := 2, cells := fun x => [.int .i64 x.1, .func (.func x.2) #[] #[]], val := fun x => .agg #[.int .i64 x.1, .func (.func x.2) #[] #[]], len := fun _ => rfl, ones := fun _ u h => (by simp at h; rcases h with h | h <;> subst h <;> rfl), pos := by decide, vc := fun _ => rfl }
theorem ty186 : Ty Try.prog 186 encWay := .inr ⟨ag186, fun _ => rfl⟩
def waysL : List (Int × FuncId) := [(1, 148), (2, 149), (3, 150), (4, 151), (5, 152)]
theorem bd186_0_1 (x0 : Int) (g1 : FuncId) (w : World) : (Instr.build 186 #[(0, .int .i64 x0), (1, .func (.func g1) #[] #[])]).run Try.prog w = .ok (.agg #[.int .i64 x0, .func (.func g1) #[] #[]]) w := by kernel_rfl
theorem quant_ways (w : World) : Calls Try.prog 132 #[] w fun e w' => ∃ b m k, e = .returned (.slice b m k) ∧ Fresh encWay 186 w w' b m k waysL := by
  refine enterQ (N := 7) (C := fun _ => True) (H := []) (B := w.heap.size) (args := []) Try.func132 rfl rfl rfl (Nat.le_refl _) (Sat.nil _ _) fun Q hQ => ?_
  refine wp_seq' fun K1 hK1 => ?_
  refine wp_reg ?_
  refine ol_r (r_assign rfl) rfl ?_
  refine ol_nil (to_k0 (fun _ _ h => h) (hK1 _ _ _ _ _ ?_))
  clear hK1
  refine wp_seq' fun K2 hK2 => ?_
  refine wp_reg ?_
  refine ol_r (r_build rfl (fun _ => bd186_0_1 _ _ _)) rfl ?_
  refine ol_r (r_build rfl (fun _ => bd186_0_1 _ _ _)) rfl ?_
  refine ol_r (r_build rfl (fun _ => bd186_0_1 _ _ _)) rfl ?_
  refine ol_r (r_build rfl (fun _ => bd186_0_1 _ _ _)) rfl ?_
  refine ol_r (r_build rfl (fun _ => bd186_0_1 _ _ _)) rfl ?_
  refine ol_bsG (encWay.enc (waysL)) 6 rfl rw181 rfl rfl (fun _ => by kernel_rfl) rfl fun a6 => ?_
  refine ol_r (r_assign rfl) rfl ?_
  refine ol_nil (to_k0 (fun _ _ h => h) (hK2 _ _ _ _ _ ?_))
  clear hK2
  refine hQ.ret (rvs1 (rv_t rfl)) (fun _ _ h => h) fun w hb hs hB hkd => ?_
  exact ⟨_, _, _, rfl, hb, hs.ok 6 _ rfl⟩
theorem way_up (below : Bool) (whole half : Int) (w : World) : Calls Try.prog 149 #[.bool below, .int .u64 whole, .int .i64 half] w fun e w' => e = .returned (.bool (!below)) ∧ Below w.heap.size w w' := by
  refine enterQ (N := 9) (C := fun _ => True) (H := []) (B := w.heap.size) (args := [_, _, _]) Try.func149 rfl rfl rfl (Nat.le_refl _) (Sat.nil _ _) fun Q hQ => ?_
  refine wp_seq' fun K1 hK1 => ?_
  refine wp_reg ?_
  refine ol_r (r_assign rfl) rfl ?_
  refine ol_nil (to_k0 (fun _ _ h => h) (hK1 _ _ _ _ _ ?_))
  clear hK1
  refine wp_seq' fun K2 hK2 => ?_
  refine wp_reg ?_
  refine ol_r (r_move rfl) rfl ?_
  refine ol_r (r_not rfl) rfl ?_
  refine ol_r (r_assign rfl) rfl ?_
  refine ol_nil (to_k0 (fun _ _ h => h) (hK2 _ _ _ _ _ ?_))
  clear hK2
  refine hQ.ret (rvs1 (rv_t rfl)) (fun _ _ h => h) fun w hb hs hB hkd => ?_
  exact ⟨rfl, hb⟩
theorem way_near (below : Bool) (whole half : Int) (w : World) : Calls Try.prog 151 #[.bool below, .int .u64 whole, .int .i64 half] w fun e w' => e = .returned (.bool (decide (0 < half) || (decide (half = 0) && !below))) ∧ Below w.heap.size w w' := by
  refine enterQ (N := 17) (C := fun _ => True) (H := []) (B := w.heap.size) (args := [_, _, _]) Try.func151 rfl rfl rfl (Nat.le_refl _) (Sat.nil _ _) fun Q hQ => ?_
  refine wp_seq' fun K1 hK1 => ?_
  refine wp_reg ?_
  refine ol_r (r_assign rfl) rfl ?_
  refine ol_nil (to_k0 (fun _ _ h => h) (hK1 _ _ _ _ _ ?_))
  clear hK1
  refine wp_seq' fun K2 hK2 => ?_
  refine wp_reg ?_
  refine ol_r (r_move rfl) rfl ?_
  refine ol_r (r_gtr rfl rfl) rfl ?_
  refine ol_r (r_move rfl) rfl ?_
  refine ol_split (d := 9) rfl (fun hs9 => ?_) (fun hs9 => ?_)
  ·have phs9 := hs9; try simp only [decide_eq_true_eq, decide_eq_false_iff_not, Bool.not_eq_true', Bool.not_eq_false', Bool.not_true, Bool.not_false] at phs9
   refine ol_s rfl rfl hs9 rfl ?_
   refine ol_s rfl rfl hs9 rfl ?_
   refine ol_s rfl rfl hs9 rfl ?_
   refine ol_u rfl rfl rfl ?_
   refine ol_u rfl rfl rfl ?_
   refine ol_s rfl rfl hs9 rfl ?_
   refine ol_r (r_pickT rfl hs9 rfl) rfl ?_
   refine ol_r (r_assign rfl) rfl ?_
   refine ol_nil (to_k0 (fun _ _ h => h) (hK2 _ _ _ _ _ ?_))
   clear hK2
   refine hQ.ret (rvs1 (rv_t rfl)) (fun _ _ h => h) fun w hb hs hB hkd => ?_
   first
     | exact ⟨by simp_all, hb⟩
  ·have phs9 := hs9; try simp only [decide_eq_true_eq, decide_eq_false_iff_not, Bool.not_eq_true', Bool.not_eq_false', Bool.not_true, Bool.not_false] at phs9
   refine ol_g rfl rfl hs9 ?_
   refine ol_r (r_move rfl) rfl ?_
   refine ol_g rfl rfl hs9 ?_
   refine ol_r (r_eql rfl rfl) rfl ?_
   refine ol_g rfl rfl hs9 ?_
   refine ol_r (r_move rfl) rfl ?_
   refine ol_split (d := 12) rfl (fun hs12 => ?_) (fun hs12 => ?_)
   ·have phs12 := hs12; try simp only [decide_eq_true_eq, decide_eq_false_iff_not, Bool.not_eq_true', Bool.not_eq_false', Bool.not_true, Bool.not_false] at phs12
    refine ol_g rfl rfl hs12 ?_
    refine ol_r (r_move rfl) rfl ?_
    refine ol_g rfl rfl hs12 ?_
    refine ol_r (r_not rfl) rfl ?_
    refine ol_g rfl rfl hs9 ?_
    refine ol_r (r_pickT rfl hs12 rfl) rfl ?_
    refine ol_r (r_pickF rfl hs9 rfl) rfl ?_
    refine ol_r (r_assign rfl) rfl ?_
    refine ol_nil (to_k0 (fun _ _ h => h) (hK2 _ _ _ _ _ ?_))
    clear hK2
    refine hQ.ret (rvs1 (rv_t rfl)) (fun _ _ h => h) fun w hb hs hB hkd => ?_
    first
      | exact ⟨by simp_all, hb⟩
   ·have phs12 := hs12; try simp only [decide_eq_true_eq, decide_eq_false_iff_not, Bool.not_eq_true', Bool.not_eq_false', Bool.not_true, Bool.not_false] at phs12
    refine ol_s rfl rfl hs12 rfl ?_
    refine ol_s rfl rfl hs12 rfl ?_
    refine ol_g rfl rfl hs9 ?_
    refine ol_r (r_pickF rfl hs12 rfl) rfl ?_
    refine ol_r (r_pickF rfl hs9 rfl) rfl ?_
    refine ol_r (r_assign rfl) rfl ?_
    refine ol_nil (to_k0 (fun _ _ h => h) (hK2 _ _ _ _ _ ?_))
    clear hK2
    refine hQ.ret (rvs1 (rv_t rfl)) (fun _ _ h => h) fun w hb hs hB hkd => ?_
    first
      | exact ⟨by simp_all, hb⟩
theorem indexFunc_way (a : Option Addr) (n c1 : Nat) (xs : List (Int × FuncId)) (g : FuncId) (cv : List Value) (p : Int × FuncId → Bool) (r : Int) (w : World) (hx : Rd encWay w.heap.size w a n c1 xs) (hg : Callable Try.prog g) (hr : idxP p xs = r)
    (hf : ∀ x w', x ∈ xs → Below w.heap.size w w' → w.heap.size ≤ w'.heap.size → Calls Try.prog g ([encWay.val x] ++ cv).toArray w' fun e w2 => e = .returned (.bool (p x)) ∧ Below w'.heap.size w' w2) :
    Calls Try.prog 133 #[.slice a n c1, .func (.func g) #[] cv.toArray] w fun e w' => e = .returned (.int .i64 r) ∧ Below w.heap.size w w' := by
  have hl := hx.len
  have hfit := hx.fit
  subst hl
  subst hr
  refine enterQ (N := 19) (C := fun _ => True) (H := []) (B := w.heap.size) (args := [_, _]) Try.func133 rfl rfl rfl (Nat.le_refl _) (Sat.nil _ _) fun Q hQ => ?_
  refine wp_seq' fun K1 hK1 => ?_
  refine wp_reg ?_
  refine ol_r (r_assign rfl) rfl ?_
  refine ol_nil (to_k0 (fun _ _ h => h) (hK1 _ _ _ _ _ ?_))
  clear hK1
  refine wp_seq' fun K2 hK2 => ?_
  refine wp_seq' fun K3 hK3 => ?_
  refine wp_reg ?_
  refine ol_r (r_move rfl) rfl ?_
  refine ol_r (r_len rfl sl181) rfl ?_
  refine ol_r (r_move rfl) rfl ?_
  refine ol_nil (to_k0 (fun _ _ h => h) (hK3 _ _ _ _ _ ?_))
  clear hK3
  refine wp_block' ?_
  apply wp_loopM (σ := Nat) (fun s => s ≤ xs.length ∧ ∀ y ∈ xs.take s, p y = false) (fun s => [(8, .int .i64 s)]) [(0, _), (1, _), (7, _)] (fun s => []) [] (fun s => xs.length - s) (0)
  ·try dsimp only
   simp
  ·exact (sub_cons rfl sub_nil)
  ·exact (sub_cons rfl (sub_cons rfl (sub_cons rfl sub_nil)))
  ·exact subH_nil
  ·exact subH_nil
  ·rintro k ⟨hk, hP⟩
   intro K4 hK4
   refine wp_seq' fun K5 hK5 => ?_
   refine wp_reg ?_
   refine ol_r (r_lss rfl rfl) rfl ?_
   refine ol_nil (to_k0 (fun _ _ h => h) (hK5 _ _ _ _ _ ?_))
   clear hK5
   refine wp_seq' fun K6 hK6 => ?_
   refine wp_condD rfl (fun hc9 => ?_) (fun hc9 => ?_)
   ·refine wp_skip' (to_k0 (fun _ _ h => h) (hK6 _ _ _ _ _ ?_))
    clear hK6
    refine wp_seq' fun K7 hK7 => ?_
    refine wp_block' ?_
    refine wp_seq' fun K8 hK8 => ?_
    refine wp_reg ?_
    refine ol_r (r_move rfl) rfl ?_
    refine ol_r (r_assign rfl) rfl ?_
    refine ol_nil (to_k0 (fun _ _ h => h) (hK8 _ _ _ _ _ ?_))
    clear hK8
    refine wp_seq' fun K9 hK9 => ?_
    refine wp_reg ?_
    refine ol_r (r_move rfl) rfl ?_
    refine ol_r (r_move rfl) rfl ?_
    refine ol_r (r_move rfl) rfl ?_
    refine ol_ixr hx rfl rfl sl181 (by omega) rfl fun x14 hx14 => ?_
    try simp only [Int.toNat_natCast] at hx14
    refine ol_r (r_ldw rfl (fun w1 hb1 hs1 hB1 => Rd.loads hx ty186 hx14 hb1)) rfl ?_
    refine ol_call rfl rfl hg rfl (fun w1 hb1 hs1 hB1 => Calls.mono (hf _ _ (List.mem_of_getElem? hx14) hb1 hB1) ?_)
    rintro e w2 ⟨rfl, hb2⟩
    refine After.below rfl hb1 hs1 hB1 hb2 ?_
    clear hb2 hB1 hs1 hb1 w2 w1
    refine ol_nil (to_k0 (fun _ _ h => h) (hK9 _ _ _ _ _ ?_))
    clear hK9
    refine wp_cond' rfl (fun hc16 => ?_) (fun hc16 => ?_)
    ·refine wp_seq' fun K10 hK10 => ?_
     refine wp_reg ?_
     refine ol_r (r_move rfl) rfl ?_
     refine ol_r (r_assign rfl) rfl ?_
     refine ol_nil (to_k0 (fun _ _ h => h) (hK10 _ _ _ _ _ ?_))
     clear hK10
     refine hQ.ret (rvs1 (rv_t rfl)) (fun _ _ h => h) fun w hb hs hB hkd => ?_
     exact ⟨by rw [idxP_at hx14 hc16 hP], hb⟩
    ·refine wp_skip' (to_k0 (fun _ _ h => h) (hK7 _ _ _ _ _ ?_))
     clear hK7
     refine wp_reg ?_
     refine ol_r (r_add rfl rfl (by omega)) rfl ?_
     refine ol_r (r_move rfl) rfl ?_
     refine ol_nil (to_k0 (fun _ _ h => h) (hK4 (k + 1) _ _ ?_ ?_ (sub_cons rfl sub_nil) (sub_cons rfl (sub_cons rfl (sub_cons rfl sub_nil))) (by exact subH_nil) subH_nil))
     ·try dsimp only
      refine ⟨by omega, fun y hy => ?_⟩
      rw [take_succ_get hx14] at hy
      rcases List.mem_append.1 hy with h | h
      · exact hP y h
      · simp at h; subst h; exact hc16
     ·try dsimp only
      omega
   ·refine wp_exit' (to_k0 (fun _ _ h => h) (hK2 _ _ _ _ _ ?_))
    clear hK2
    refine wp_seq' fun K11 hK11 => ?_
    refine wp_reg ?_
    refine ol_r (r_assign rfl) rfl ?_
    refine ol_nil (to_k0 (fun _ _ h => h) (hK11 _ _ _ _ _ ?_))
    clear hK11
    refine hQ.ret (rvs1 (rv_t rfl)) (fun _ _ h => h) fun w hb hs hB hkd => ?_
    rw [List.take_of_length_le (by omega)] at hP
    exact ⟨by rw [idxP_no hP], hb⟩
theorem scale_is (x : Int × FuncId) (how : Int) (b : Nat) (w : World) (h : Blk w.heap.size w b [(0, .int .i64 how)]) :
    Calls Try.prog 134 ([encWay.val x] ++ [Value.pointer (some ⟨b, 0, none⟩)]).toArray w fun e w' => e = .returned (.bool (decide (x.1 = how))) ∧ Below w.heap.size w w' := by
  refine enterQ (N := 8) (C := fun _ => True) (H := []) (B := w.heap.size) (args := [_, _]) Try.func134 rfl rfl rfl (Nat.le_refl _) (Sat.nil _ _) fun Q hQ => ?_
  refine wp_seq' fun K1 hK1 => ?_
  refine wp_reg ?_
  refine ol_box 2 rfl rfl rfl fun b2 => ?_
  refine ol_r (r_assign rfl) rfl ?_
  refine ol_nil (to_k0 (fun _ _ h => h) (hK1 _ _ _ _ _ ?_))
  clear hK1
  refine wp_seq' fun K2 hK2 => ?_
  refine wp_reg ?_
  refine ol_r (r_fa (o' := 0) rfl fl186_0 rfl) rfl ?_
  refine ol_r (r_ld (id := 2) rfl rfl rfl sc3) rfl ?_
  refine ol_r (r_ldw rfl (fun w1 hb1 hs1 hB1 => Blk.loads (o := 0) h hb1 sc3 rfl)) rfl ?_
  refine ol_r (r_eql rfl rfl) rfl ?_
  refine ol_r (r_assign rfl) rfl ?_
  refine ol_nil (to_k0 (fun _ _ h => h) (hK2 _ _ _ _ _ ?_))
  clear hK2
  refine hQ.ret (rvs1 (rv_t rfl)) (fun _ _ h => h) fun w hb hs hB hkd => ?_
  exact ⟨rfl, hb⟩
theorem quant_ScaleUp (a num den : Int) (w : World) (ha : 0 ≤ a ∧ a ≤ 4294967295) (hn : 0 ≤ num ∧ num ≤ 4294967295) (hd : 1 ≤ den ∧ den ≤ 4294967295) (hx : 0 ≤ a * num ∧ a * num ≤ 1000000000000000000) :
    Calls Try.prog 106 #[.int .i64 a, .int .i64 num, .int .i64 den, .int .i64 2] w fun e w' => e = .returned (.tuple #[.int .i64 (upD (a * num) den), .int .i64 0]) ∧ Below w.heap.size w w' := by
  have hq : 0 ≤ a * num / den := Int.ediv_nonneg hx.1 (by omega)
  have hq2 : a * num / den ≤ a * num := Int.ediv_le_self _ hx.1
  have hr : 0 ≤ a * num % den := Int.emod_nonneg _ (by omega)
  have hr2 : a * num % den < den := Int.emod_lt_of_pos _ (by omega)
  have hup := upD_eq (x := a * num) hd.1
  refine enterQ (N := 88) (C := fun _ => True) (H := []) (B := w.heap.size) (args := [_, _, _, _]) Try.func106 rfl rfl rfl (Nat.le_refl _) (Sat.nil _ _) fun Q hQ => ?_
  refine wp_seq' fun K1 hK1 => ?_
  refine wp_reg ?_
  refine ol_box 7 rfl rfl rfl fun b7 => ?_
  refine ol_r (r_assign rfl) rfl ?_
  refine ol_r (r_assign rfl) rfl ?_
  refine ol_nil (to_k0 (fun _ _ h => h) (hK1 _ _ _ _ _ ?_))
  clear hK1
  refine wp_seq' fun K2 hK2 => ?_
  refine wp_reg ?_
  refine ol_call rfl rfl cb132 rfl (fun w1 hb1 hs1 hB1 => Calls.mono (quant_ways _) ?_)
  rintro e w2 ⟨a18, n18, c18, rfl, hf18⟩
  refine After.fresh (id := 18) rfl hb1 hs1 hB1 hf18 ?_
  have hl18 := hf18.len; clear hf18 hB1 hs1 hb1 w2 w1
  refine ol_r (r_assign rfl) rfl ?_
  refine ol_nil (to_k0 (fun _ _ h => h) (hK2 _ _ _ _ _ ?_))
  clear hK2
  refine wp_seq' fun K3 hK3 => ?_
  refine wp_reg ?_
  have hn18 : n18 = 5 := by rw [← hl18]; rfl
  refine ol_r (r_move rfl) rfl ?_
  refine ol_r (r_func rfl) rfl ?_
  refine ol_call rfl rfl cb133 rfl (fun w1 hb1 hs1 hB1 => Calls.mono (indexFunc_way _ _ _ waysL _ _ (fun x => decide (x.1 = 2)) 1 _ (Sat.rd hs1 (E := encWay) (id := 18) rfl rfl) cb134 rfl (fun x w' _ h1 h2 => scale_is x 2 _ w' ((hs1.blk (id := 7) rfl).at h1 h2))) ?_)
  rintro e w2 ⟨rfl, hb2⟩
  refine After.below rfl hb1 hs1 hB1 hb2 ?_
  clear hb2 hB1 hs1 hb1 w2 w1
  refine ol_r (r_assign rfl) rfl ?_
  refine ol_nil (to_k0 (fun _ _ h => h) (hK3 _ _ _ _ _ ?_))
  clear hK3
  refine wp_seq' fun K4 hK4 => ?_
  refine wp_seq' fun K5 hK5 => ?_
  refine wp_reg ?_
  refine ol_r (r_move rfl) rfl ?_
  refine ol_r (r_lss rfl rfl) rfl ?_
  refine ol_nil (to_k0 (fun _ _ h => h) (hK5 _ _ _ _ _ ?_))
  clear hK5
  refine wp_condD rfl (fun hc23 => ?_) (fun hc23 => ?_)
  ·exfalso
   omega
  ·refine wp_skip' (to_k0 (fun _ _ h => h) (hK4 _ _ _ _ _ ?_))
   clear hK4
   refine wp_seq' fun K6 hK6 => ?_
   refine wp_seq' fun K7 hK7 => ?_
   refine wp_reg ?_
   refine ol_r (r_move rfl) rfl ?_
   refine ol_r (r_leq rfl rfl) rfl ?_
   refine ol_r (r_move rfl) rfl ?_
   refine ol_split (d := 26) rfl (fun hs26 => ?_) (fun hs26 => ?_)
   ·have phs26 := hs26; try simp only [decide_eq_true_eq, decide_eq_false_iff_not, Bool.not_eq_true', Bool.not_eq_false', Bool.not_true, Bool.not_false] at phs26
    refine ol_s rfl rfl hs26 rfl ?_
    refine ol_s rfl rfl hs26 rfl ?_
    refine ol_r (r_pickT rfl hs26 rfl) rfl ?_
    refine ol_nil (to_k0 (fun _ _ h => h) (hK7 _ _ _ _ _ ?_))
    clear hK7
    refine wp_condT rfl ?_
    refine wp_seq' fun K8 hK8 => ?_
    refine wp_reg ?_
    refine ol_r (r_assign rfl) rfl ?_
    refine ol_r (r_assign rfl) rfl ?_
    refine ol_nil (to_k0 (fun _ _ h => h) (hK8 _ _ _ _ _ ?_))
    clear hK8
    refine hQ.ret (rvs2 (rv_t rfl) (rv_t rfl)) (fun _ _ h => h) fun w hb hs hB hkd => ?_
    first
      | (exfalso; omega)
   ·have phs26 := hs26; try simp only [decide_eq_true_eq, decide_eq_false_iff_not, Bool.not_eq_true', Bool.not_eq_false', Bool.not_true, Bool.not_false] at phs26
    refine ol_g rfl rfl hs26 ?_
    refine ol_r (r_move rfl) rfl ?_
    refine ol_g rfl rfl hs26 ?_
    refine ol_r (r_lss rfl rfl) rfl ?_
    refine ol_r (r_pickF rfl hs26 rfl) rfl ?_
    refine ol_nil (to_k0 (fun _ _ h => h) (hK7 _ _ _ _ _ ?_))
    clear hK7
    refine wp_condD rfl (fun hc29 => ?_) (fun hc29 => ?_)
    ·exfalso
     omega
    ·refine wp_skip' (to_k0 (fun _ _ h => h) (hK6 _ _ _ _ _ ?_))
     clear hK6
     refine wp_seq' fun K9 hK9 => ?_
     refine wp_reg ?_
     refine ol_r (r_move rfl) rfl ?_
     refine ol_r (r_lss rfl rfl) rfl ?_
     refine ol_r (r_assign rfl) rfl ?_
     refine ol_nil (to_k0 (fun _ _ h => h) (hK9 _ _ _ _ _ ?_))
     clear hK9
     refine wp_seq' fun K10 hK10 => ?_
     refine wp_reg ?_
     refine ol_r (r_move rfl) rfl ?_
     refine ol_r (r_conv (k2 := .u64) rfl (by kernel_rfl) (by kernel_rfl) (wrap_u64 (by omega))) rfl ?_
     refine ol_r (r_assign rfl) rfl ?_
     refine ol_nil (to_k0 (fun _ _ h => h) (hK10 _ _ _ _ _ ?_))
     clear hK10
     refine wp_seq' fun K11 hK11 => ?_
     refine wp_seq' fun K12 hK12 => ?_
     refine wp_reg ?_
     refine ol_r (r_move rfl) rfl ?_
     refine ol_nil (to_k0 (fun _ _ h => h) (hK12 _ _ _ _ _ ?_))
     clear hK12
     refine wp_condD rfl (fun hc34 => ?_) (fun hc34 => ?_)
     ·exfalso
      omega
     ·refine wp_skip' (to_k0 (fun _ _ h => h) (hK11 _ _ _ _ _ ?_))
      clear hK11
      refine wp_seq' fun K13 hK13 => ?_
      refine wp_reg ?_
      refine ol_r (r_move rfl) rfl ?_
      refine ol_r (r_move rfl) rfl ?_
      refine ol_r (r_conv (k2 := .u64) rfl (by kernel_rfl) (by kernel_rfl) (wrap_u64 (by omega))) rfl ?_
      refine ol_call rfl rfl cb130 rfl (fun w1 hb1 hs1 hB1 => Calls.mono (bits_Mul64 a num _ ha hn (by omega)) ?_)
      rintro e w2 ⟨rfl, hb2⟩
      refine After.below rfl hb1 hs1 hB1 hb2 ?_
      clear hb2 hB1 hs1 hb1 w2 w1
      refine ol_r (r_move rfl) rfl ?_
      refine ol_r (r_extract rfl rfl) rfl ?_
      refine ol_r (r_extract rfl rfl) rfl ?_
      refine ol_r (r_assign rfl) rfl ?_
      refine ol_r (r_assign rfl) rfl ?_
      refine ol_nil (to_k0 (fun _ _ h => h) (hK13 _ _ _ _ _ ?_))
      clear hK13
      refine wp_seq' fun K14 hK14 => ?_
      refine wp_seq' fun K15 hK15 => ?_
      refine wp_reg ?_
      refine ol_r (r_move rfl) rfl ?_
      refine ol_r (r_move rfl) rfl ?_
      refine ol_r (r_conv (k2 := .u64) rfl (by kernel_rfl) (by kernel_rfl) (wrap_u64 (by omega))) rfl ?_
      refine ol_r (r_geq rfl rfl) rfl ?_
      refine ol_nil (to_k0 (fun _ _ h => h) (hK15 _ _ _ _ _ ?_))
      clear hK15
      refine wp_condD rfl (fun hc47 => ?_) (fun hc47 => ?_)
      ·exfalso
       omega
      ·refine wp_skip' (to_k0 (fun _ _ h => h) (hK14 _ _ _ _ _ ?_))
       clear hK14
       refine wp_seq' fun K16 hK16 => ?_
       refine wp_reg ?_
       refine ol_r (r_move rfl) rfl ?_
       refine ol_r (r_move rfl) rfl ?_
       refine ol_r (r_move rfl) rfl ?_
       refine ol_r (r_conv (k2 := .u64) rfl (by kernel_rfl) (by kernel_rfl) (wrap_u64 (by omega))) rfl ?_
       refine ol_call rfl rfl cb135 rfl (fun w1 hb1 hs1 hB1 => Calls.mono (bits_Div64 (a * num) den _ (by omega) (by omega)) ?_)
       rintro e w2 ⟨rfl, hb2⟩
       refine After.below rfl hb1 hs1 hB1 hb2 ?_
       clear hb2 hB1 hs1 hb1 w2 w1
       refine ol_r (r_move rfl) rfl ?_
       refine ol_r (r_extract rfl rfl) rfl ?_
       refine ol_r (r_extract rfl rfl) rfl ?_
       refine ol_r (r_assign rfl) rfl ?_
       refine ol_r (r_assign rfl) rfl ?_
       refine ol_nil (to_k0 (fun _ _ h => h) (hK16 _ _ _ _ _ ?_))
       clear hK16
       refine wp_seq' fun K17 hK17 => ?_
       refine wp_seq' fun K18 hK18 => ?_
       refine wp_regq (by kernel_rfl) (by kernel_rfl) ?_
       refine ql_r (r_move rfl) rfl ?_
       refine ql_r (r_gtr rfl rfl) rfl ?_
       refine ql_r (r_move rfl) rfl ?_
       refine ql_split (d := 58) rfl (fun hs58 => ?_) (fun hs58 => ?_)
       ·have phs58 := hs58; try simp only [decide_eq_true_eq, decide_eq_false_iff_not, Bool.not_eq_true', Bool.not_eq_false', Bool.not_true, Bool.not_false] at phs58
        refine ql_g rfl rfl hs58 ?_
        refine ql_r (r_move rfl) rfl ?_
        refine ql_g rfl rfl hs58 ?_
        refine ql_r (r_leq rfl rfl) rfl ?_
        refine ql_r (r_pickT rfl hs58 rfl) rfl ?_
        refine ql_r (r_move rfl) rfl ?_
        refine ql_split (d := 62) rfl (fun hs62 => ?_) (fun hs62 => ?_)
        ·have phs62 := hs62; try simp only [decide_eq_true_eq, decide_eq_false_iff_not, Bool.not_eq_true', Bool.not_eq_false', Bool.not_true, Bool.not_false] at phs62
         refine ql_g rfl rfl hs62 ?_
         refine ql_r (r_move rfl) rfl ?_
         refine ql_g rfl rfl hs62 ?_
         refine ql_r (r_move rfl) rfl ?_
         refine ql_g rfl rfl hs62 ?_
         refine ql_ixo (id := 18) encWay waysL rfl rfl rfl rfl sl181 (by omega) (by omega) rfl fun x65 hx65 => ?_
         try simp only [Int.toNat_natCast] at hx65
         try simp only [Int.toNat_natCast] at hx65
         refine ql_g rfl rfl hs62 ?_
         have h65 := Option.some.inj (hx65.symm.trans (show _ = some ((2, 149) : Int × FuncId) from rfl))
         subst h65
         refine ql_r (r_faO (id := 18) rfl rfl rfl hx65 fl186_1) rfl ?_
         refine ql_g rfl rfl hs62 ?_
         refine ql_r (r_ldw rfl (fun w1 hb1 hs1 hB1 => ld_ownF (id := 18) (o := 1) hs1 rfl rfl sc184 hx65 rfl)) rfl ?_
         refine ql_g rfl rfl hs62 ?_
         refine ql_r (r_move rfl) rfl ?_
         refine ql_g rfl rfl hs62 ?_
         refine ql_r (r_move rfl) rfl ?_
         refine ql_g rfl rfl hs62 ?_
         refine ql_r (r_move rfl) rfl ?_
         refine ql_g rfl rfl hs62 ?_
         refine ql_r (r_move rfl) rfl ?_
         refine ql_g rfl rfl hs62 ?_
         refine ql_r (r_conv (k2 := .u64) rfl (by kernel_rfl) (by kernel_rfl) (wrap_u64 (by omega))) rfl ?_
         refine ql_g rfl rfl hs62 ?_
         refine ql_r (r_move rfl) rfl ?_
         refine ql_g rfl rfl hs62 ?_
         refine ql_r (r_subg _ rfl rfl (wrap_u64 (by omega))) rfl ?_
         refine ql_g rfl rfl hs62 ?_
         refine ql_call rfl rfl cb131 rfl (fun w1 hb1 hs1 hB1 => cmp_Compareu _ _ _) ?_
         refine ql_g rfl rfl hs62 ?_
         refine ql_call rfl rfl cb149 rfl (fun w1 hb1 hs1 hB1 => way_up _ _ _ _) ?_
         refine ql_r (r_pickT rfl hs62 rfl) rfl ?_
         refine ql_nil (to_k0 (fun _ _ h => h) (hK18 _ _ _ _ _ ?_))
         clear hK18
         refine wp_condN rfl (fun hc77 => ?_) (fun hc77 => ?_)
         ·refine wp_reg ?_
          refine ol_r (r_move rfl) rfl ?_
          refine ol_r (r_addg _ rfl rfl (wrap_u64 (by omega))) rfl ?_
          refine ol_r (r_assign rfl) rfl ?_
          refine ol_nil (to_k0 (fun _ _ h => h) (hK17 _ _ _ _ _ ?_))
          clear hK17
          refine wp_seq' fun K19 hK19 => ?_
          refine wp_seq' fun K20 hK20 => ?_
          refine wp_reg ?_
          refine ol_r (r_move rfl) rfl ?_
          refine ol_r (r_gtr rfl rfl) rfl ?_
          refine ol_nil (to_k0 (fun _ _ h => h) (hK20 _ _ _ _ _ ?_))
          clear hK20
          refine wp_condD rfl (fun hc81 => ?_) (fun hc81 => ?_)
          ·exfalso
           omega
          ·refine wp_skip' (to_k0 (fun _ _ h => h) (hK19 _ _ _ _ _ ?_))
           clear hK19
           refine wp_seq' fun K21 hK21 => ?_
           refine wp_seq' fun K22 hK22 => ?_
           refine wp_reg ?_
           refine ol_r (r_move rfl) rfl ?_
           refine ol_nil (to_k0 (fun _ _ h => h) (hK22 _ _ _ _ _ ?_))
           clear hK22
           refine wp_condD rfl (fun hc82 => ?_) (fun hc82 => ?_)
           ·exfalso
            omega
           ·refine wp_skip' (to_k0 (fun _ _ h => h) (hK21 _ _ _ _ _ ?_))
            clear hK21
            refine wp_seq' fun K23 hK23 => ?_
            refine wp_reg ?_
            refine ol_r (r_move rfl) rfl ?_
            refine ol_r (r_conv (k2 := .i64) rfl (by kernel_rfl) (by kernel_rfl) (IntWalk.i64_in _ (by omega))) rfl ?_
            refine ol_r (r_assign rfl) rfl ?_
            refine ol_r (r_assign rfl) rfl ?_
            refine ol_nil (to_k0 (fun _ _ h => h) (hK23 _ _ _ _ _ ?_))
            clear hK23
            refine hQ.ret (rvs2 (rv_t rfl) (rv_t rfl)) (fun _ _ h => h) fun w hb hs hB hkd => ?_
            first
              | exact ⟨by rw [← hup, if_pos (by omega)], hb⟩
         ·refine wp_skip' (to_k0 (fun _ _ h => h) (hK17 _ _ _ _ _ ?_))
          clear hK17
          refine wp_seq' fun K24 hK24 => ?_
          refine wp_seq' fun K25 hK25 => ?_
          refine wp_reg ?_
          refine ol_r (r_move rfl) rfl ?_
          refine ol_r (r_gtr rfl rfl) rfl ?_
          refine ol_nil (to_k0 (fun _ _ h => h) (hK25 _ _ _ _ _ ?_))
          clear hK25
          refine wp_condD rfl (fun hc81 => ?_) (fun hc81 => ?_)
          ·exfalso
           omega
          ·refine wp_skip' (to_k0 (fun _ _ h => h) (hK24 _ _ _ _ _ ?_))
           clear hK24
           refine wp_seq' fun K26 hK26 => ?_
           refine wp_seq' fun K27 hK27 => ?_
           refine wp_reg ?_
           refine ol_r (r_move rfl) rfl ?_
           refine ol_nil (to_k0 (fun _ _ h => h) (hK27 _ _ _ _ _ ?_))
           clear hK27
           refine wp_condD rfl (fun hc82 => ?_) (fun hc82 => ?_)
           ·exfalso
            omega
           ·refine wp_skip' (to_k0 (fun _ _ h => h) (hK26 _ _ _ _ _ ?_))
            clear hK26
            refine wp_seq' fun K28 hK28 => ?_
            refine wp_reg ?_
            refine ol_r (r_move rfl) rfl ?_
            refine ol_r (r_conv (k2 := .i64) rfl (by kernel_rfl) (by kernel_rfl) (IntWalk.i64_in _ (by omega))) rfl ?_
            refine ol_r (r_assign rfl) rfl ?_
            refine ol_r (r_assign rfl) rfl ?_
            refine ol_nil (to_k0 (fun _ _ h => h) (hK28 _ _ _ _ _ ?_))
            clear hK28
            refine hQ.ret (rvs2 (rv_t rfl) (rv_t rfl)) (fun _ _ h => h) fun w hb hs hB hkd => ?_
            first
              | (exfalso; omega)
        ·have phs62 := hs62; try simp only [decide_eq_true_eq, decide_eq_false_iff_not, Bool.not_eq_true', Bool.not_eq_false', Bool.not_true, Bool.not_false] at phs62
         refine ql_s rfl rfl hs62 rfl ?_
         refine ql_s rfl rfl hs62 rfl ?_
         refine ql_s rfl rfl hs62 rfl ?_
         refine ql_s rfl rfl hs62 rfl ?_
         refine ql_s rfl rfl hs62 rfl ?_
         refine ql_s rfl rfl hs62 rfl ?_
         refine ql_s rfl rfl hs62 rfl ?_
         refine ql_s rfl rfl hs62 rfl ?_
         refine ql_s rfl rfl hs62 rfl ?_
         refine ql_s rfl rfl hs62 rfl ?_
         refine ql_s rfl rfl hs62 rfl ?_
         refine ql_s rfl rfl hs62 rfl ?_
         refine ql_s rfl rfl hs62 rfl ?_
         refine ql_s rfl rfl hs62 rfl ?_
         refine ql_r (r_pickF rfl hs62 rfl) rfl ?_
         refine ql_nil (to_k0 (fun _ _ h => h) (hK18 _ _ _ _ _ ?_))
         clear hK18
         refine wp_condF rfl ?_
         refine wp_skip' (to_k0 (fun _ _ h => h) (hK17 _ _ _ _ _ ?_))
         clear hK17
         refine wp_seq' fun K29 hK29 => ?_
         refine wp_seq' fun K30 hK30 => ?_
         refine wp_reg ?_
         refine ol_r (r_move rfl) rfl ?_
         refine ol_r (r_gtr rfl rfl) rfl ?_
         refine ol_nil (to_k0 (fun _ _ h => h) (hK30 _ _ _ _ _ ?_))
         clear hK30
         refine wp_condD rfl (fun hc81 => ?_) (fun hc81 => ?_)
         ·exfalso
          omega
         ·refine wp_skip' (to_k0 (fun _ _ h => h) (hK29 _ _ _ _ _ ?_))
          clear hK29
          refine wp_seq' fun K31 hK31 => ?_
          refine wp_seq' fun K32 hK32 => ?_
          refine wp_reg ?_
          refine ol_r (r_move rfl) rfl ?_
          refine ol_nil (to_k0 (fun _ _ h => h) (hK32 _ _ _ _ _ ?_))
          clear hK32
          refine wp_condD rfl (fun hc82 => ?_) (fun hc82 => ?_)
          ·exfalso
           omega
          ·refine wp_skip' (to_k0 (fun _ _ h => h) (hK31 _ _ _ _ _ ?_))
           clear hK31
           refine wp_seq' fun K33 hK33 => ?_
           refine wp_reg ?_
           refine ol_r (r_move rfl) rfl ?_
           refine ol_r (r_conv (k2 := .i64) rfl (by kernel_rfl) (by kernel_rfl) (IntWalk.i64_in _ (by omega))) rfl ?_
           refine ol_r (r_assign rfl) rfl ?_
           refine ol_r (r_assign rfl) rfl ?_
           refine ol_nil (to_k0 (fun _ _ h => h) (hK33 _ _ _ _ _ ?_))
           clear hK33
           refine hQ.ret (rvs2 (rv_t rfl) (rv_t rfl)) (fun _ _ h => h) fun w hb hs hB hkd => ?_
           first
             | (exfalso; omega)
       ·have phs58 := hs58; try simp only [decide_eq_true_eq, decide_eq_false_iff_not, Bool.not_eq_true', Bool.not_eq_false', Bool.not_true, Bool.not_false] at phs58
        refine ql_s rfl rfl hs58 rfl ?_
        refine ql_s rfl rfl hs58 rfl ?_
        refine ql_r (r_pickF rfl hs58 rfl) rfl ?_
        refine ql_r (r_move rfl) rfl ?_
        refine ql_s rfl rfl rfl rfl ?_
        refine ql_s rfl rfl rfl rfl ?_
        refine ql_s rfl rfl rfl rfl ?_
        refine ql_s rfl rfl rfl rfl ?_
        refine ql_s rfl rfl rfl rfl ?_
        refine ql_s rfl rfl rfl rfl ?_
        refine ql_s rfl rfl rfl rfl ?_
        refine ql_s rfl rfl rfl rfl ?_
        refine ql_s rfl rfl rfl rfl ?_
        refine ql_s rfl rfl rfl rfl ?_
        refine ql_s rfl rfl rfl rfl ?_
        refine ql_s rfl rfl rfl rfl ?_
        refine ql_s rfl rfl rfl rfl ?_
        refine ql_s rfl rfl rfl rfl ?_
        refine ql_r (r_pickF rfl rfl rfl) rfl ?_
        refine ql_nil (to_k0 (fun _ _ h => h) (hK18 _ _ _ _ _ ?_))
        clear hK18
        refine wp_condF rfl ?_
        refine wp_skip' (to_k0 (fun _ _ h => h) (hK17 _ _ _ _ _ ?_))
        clear hK17
        refine wp_seq' fun K34 hK34 => ?_
        refine wp_seq' fun K35 hK35 => ?_
        refine wp_reg ?_
        refine ol_r (r_move rfl) rfl ?_
        refine ol_r (r_gtr rfl rfl) rfl ?_
        refine ol_nil (to_k0 (fun _ _ h => h) (hK35 _ _ _ _ _ ?_))
        clear hK35
        refine wp_condD rfl (fun hc81 => ?_) (fun hc81 => ?_)
        ·exfalso
         omega
        ·refine wp_skip' (to_k0 (fun _ _ h => h) (hK34 _ _ _ _ _ ?_))
         clear hK34
         refine wp_seq' fun K36 hK36 => ?_
         refine wp_seq' fun K37 hK37 => ?_
         refine wp_reg ?_
         refine ol_r (r_move rfl) rfl ?_
         refine ol_nil (to_k0 (fun _ _ h => h) (hK37 _ _ _ _ _ ?_))
         clear hK37
         refine wp_condD rfl (fun hc82 => ?_) (fun hc82 => ?_)
         ·exfalso
          omega
         ·refine wp_skip' (to_k0 (fun _ _ h => h) (hK36 _ _ _ _ _ ?_))
          clear hK36
          refine wp_seq' fun K38 hK38 => ?_
          refine wp_reg ?_
          refine ol_r (r_move rfl) rfl ?_
          refine ol_r (r_conv (k2 := .i64) rfl (by kernel_rfl) (by kernel_rfl) (IntWalk.i64_in _ (by omega))) rfl ?_
          refine ol_r (r_assign rfl) rfl ?_
          refine ol_r (r_assign rfl) rfl ?_
          refine ol_nil (to_k0 (fun _ _ h => h) (hK38 _ _ _ _ _ ?_))
          clear hK38
          refine hQ.ret (rvs2 (rv_t rfl) (rv_t rfl)) (fun _ _ h => h) fun w hb hs hB hkd => ?_
          first
            | exact ⟨by rw [← hup, if_neg (by omega), Int.add_zero], hb⟩
end Go.Proofs.Ytjflbnbofedlkaa
