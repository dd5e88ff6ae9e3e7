/-
  Keep: program and reference.
-/
import Derived.Test.YtlbcefnbjdpljaaKeepM
import Derived.Test.YtlbcefnbjdpljaaHill
namespace Go.Proofs.Ytlbcefnbjdpljaa
open Go Go.RowKit Hx
set_option linter.unusedVariables false
set_option linter.unusedSimpArgs false
set_option maxRecDepth 8000
def agB (fast : Int) (p q : SmpR) : Bool := decide (sqD p q ≤ (fast * (q.at_ - p.at_)) * (fast * (q.at_ - p.at_)))
def agS (ss : List SmpR) (fast : Int) (i k : Nat) : Bool := match ss[i]?, ss[k]? with | some p, some q => agB fast p q | _, _ => false
theorem agS_eq {ss : List SmpR} {fast : Int} {i k : Nat} {p q : SmpR} (hp : ss[i]? = some p) (hq : ss[k]? = some q) : agS ss fast i k = agB fast p q := by unfold agS; rw [hp, hq]
theorem agB_far {fast : Int} {p q : SmpR} (hp : PlaceOk p) (hq : PlaceOk q) (h : 300000000 ≤ fast * (q.at_ - p.at_)) : agB fast p q = true := by
  unfold agB
  rw [decide_eq_true_eq]
  have h1 := sqD_bd hp hq
  have h2 := sq_le (a := 300000000) (by omega) h
  omega
theorem far_bd {fast : Int} {p q : SmpR} (hf : 1 ≤ fast ∧ fast ≤ 100000) (hp : 0 ≤ p.at_) (hpq : p.at_ ≤ q.at_) (hq : q.at_ ≤ 1000000) : 0 ≤ fast * (q.at_ - p.at_) ∧ fast * (q.at_ - p.at_) ≤ 100000000000 := by
  have h := mul_bd (a := fast) (b := q.at_ - p.at_) (by omega) hf.2 (by omega) (show q.at_ - p.at_ ≤ 1000000 by omega)
  omega
theorem track_agree (fast : Int) (p q : SmpR) (w : World) (hf : 1 ≤ fast ∧ fast ≤ 100000) (hp : PlaceOk p) (hq : PlaceOk q) (hp0 : 0 ≤ p.at_) (hpq : p.at_ ≤ q.at_) (hq0 : q.at_ ≤ 1000000) :
    Calls Try.prog 53 #[.agg #[.int .i64 p.at_, .int .i64 p.x, .int .i64 p.y, .int .i64 p.z, .int .i64 p.pulse, .int .i64 p.power, .int .i64 p.steps], .agg #[.int .i64 q.at_, .int .i64 q.x, .int .i64 q.y, .int .i64 q.z, .int .i64 q.pulse, .int .i64 q.power, .int .i64 q.steps], .int .i64 fast] w fun e w' => e = .returned (.bool (agB fast p q)) ∧ Below w.heap.size w w' := by
  have hm := far_bd hf hp0 hpq hq0
  refine enterQ (N := 26) (C := fun _ => True) (H := []) (B := w.heap.size) (args := [_, _, _]) Try.func53 rfl rfl rfl (Nat.le_refl _) (Sat.nil _ _) fun Q hQ => ?_
  refine wp_seq' fun K1 hK1 => ?_
  refine wp_reg ?_
  refine ol_box 3 rfl rfl rfl fun b3 => ?_
  refine ol_box 4 rfl rfl rfl fun b4 => ?_
  refine ol_r (r_assign rfl) rfl ?_
  refine ol_nil (to_k0 (fun _ _ h => h) (hK1 _ _ _ _ _ ?_))
  clear hK1
  refine wp_seq' fun K2 hK2 => ?_
  refine wp_reg ?_
  refine ol_r (r_move rfl) rfl ?_
  refine ol_r (r_fa (o' := 0) rfl fl36_0 rfl) rfl ?_
  refine ol_r (r_ld (id := 4) rfl rfl rfl sc3) rfl ?_
  refine ol_r (r_fa (o' := 0) rfl fl36_0 rfl) rfl ?_
  refine ol_r (r_ld (id := 3) rfl rfl rfl sc3) rfl ?_
  refine ol_r (r_sub rfl rfl (by omega)) rfl ?_
  refine ol_r (r_mul rfl rfl (by omega)) rfl ?_
  refine ol_r (r_assign rfl) rfl ?_
  refine ol_nil (to_k0 (fun _ _ h => h) (hK2 _ _ _ _ _ ?_))
  clear hK2
  refine wp_seq' fun K3 hK3 => ?_
  refine wp_reg ?_
  refine ol_r (r_move rfl) rfl ?_
  refine ol_r (r_geq rfl rfl) rfl ?_
  refine ol_r (r_move rfl) rfl ?_
  refine ol_split (d := 17) rfl (fun hs17 => ?_) (fun hs17 => ?_)
  ·have phs17 := hs17; try simp only [decide_eq_true_eq, decide_eq_false_iff_not, Bool.not_eq_true', Bool.not_eq_false', Bool.not_true, Bool.not_false] at phs17
   refine ol_s rfl rfl hs17 rfl ?_
   refine ol_s rfl rfl hs17 rfl ?_
   refine ol_s rfl rfl hs17 rfl ?_
   refine ol_s rfl rfl hs17 rfl ?_
   refine ol_s rfl rfl hs17 rfl ?_
   refine ol_s rfl rfl hs17 rfl ?_
   refine ol_s rfl rfl hs17 rfl ?_
   refine ol_r (r_pickT rfl hs17 rfl) rfl ?_
   refine ol_r (r_assign rfl) rfl ?_
   refine ol_nil (to_k0 (fun _ _ h => h) (hK3 _ _ _ _ _ ?_))
   clear hK3
   refine hQ.ret (rvs1 (rv_t rfl)) (fun _ _ h => h) fun w hb hs hB hkd => ?_
   exact ⟨by rw [agB_far hp hq (by omega)], hb⟩
  ·have phs17 := hs17; try simp only [decide_eq_true_eq, decide_eq_false_iff_not, Bool.not_eq_true', Bool.not_eq_false', Bool.not_true, Bool.not_false] at phs17
   refine ol_g rfl rfl hs17 ?_
   refine ol_r (r_lda (id := 3) (n := 7) rfl rfl rfl ag36) rfl ?_
   refine ol_g rfl rfl hs17 ?_
   refine ol_r (r_lda (id := 4) (n := 7) rfl rfl rfl ag36) rfl ?_
   refine ol_g rfl rfl hs17 ?_
   refine ol_call rfl rfl cb78 rfl (fun w1 hb1 hs1 hB1 => Calls.mono (track_squares p q _ hp hq) ?_)
   rintro e w2 ⟨rfl, hb2⟩
   refine After.below rfl hb1 hs1 hB1 hb2 ?_
   clear hb2 hB1 hs1 hb1 w2 w1
   refine ol_g rfl rfl hs17 ?_
   refine ol_r (r_move rfl) rfl ?_
   refine ol_g rfl rfl hs17 ?_
   refine ol_r (r_move rfl) rfl ?_
   refine ol_g rfl rfl hs17 ?_
   have h2 := sq_bd (a := fast * (q.at_ - p.at_)) (M := 300000000) (by omega)
   refine ol_r (r_mul rfl rfl (by omega)) rfl ?_
   refine ol_g rfl rfl hs17 ?_
   refine ol_r (r_leq rfl rfl) rfl ?_
   refine ol_r (r_pickF rfl hs17 rfl) rfl ?_
   refine ol_r (r_assign rfl) rfl ?_
   refine ol_nil (to_k0 (fun _ _ h => h) (hK3 _ _ _ _ _ ?_))
   clear hK3
   refine hQ.ret (rvs1 (rv_t rfl)) (fun _ _ h => h) fun w hb hs hB hkd => ?_
   exact ⟨rfl, hb⟩
theorem ref3_agree (fast : Int) (p q : SmpR) (w : World) (hf : 1 ≤ fast ∧ fast ≤ 100000) (hp : PlaceOk p) (hq : PlaceOk q) (hp0 : 0 ≤ p.at_) (hpq : p.at_ ≤ q.at_) (hq0 : q.at_ ≤ 1000000) :
    Calls Try.prog 58 #[.agg #[.int .i64 p.at_, .int .i64 p.x, .int .i64 p.y, .int .i64 p.z, .int .i64 p.pulse, .int .i64 p.power, .int .i64 p.steps], .agg #[.int .i64 q.at_, .int .i64 q.x, .int .i64 q.y, .int .i64 q.z, .int .i64 q.pulse, .int .i64 q.power, .int .i64 q.steps], .int .i64 fast] w fun e w' => e = .returned (.bool (agB fast p q)) ∧ Below w.heap.size w w' := by
  have hm := far_bd hf hp0 hpq hq0
  refine enterQ (N := 26) (C := fun _ => True) (H := []) (B := w.heap.size) (args := [_, _, _]) Try.func58 rfl rfl rfl (Nat.le_refl _) (Sat.nil _ _) fun Q hQ => ?_
  refine wp_seq' fun K1 hK1 => ?_
  refine wp_reg ?_
  refine ol_box 3 rfl rfl rfl fun b3 => ?_
  refine ol_box 4 rfl rfl rfl fun b4 => ?_
  refine ol_r (r_assign rfl) rfl ?_
  refine ol_nil (to_k0 (fun _ _ h => h) (hK1 _ _ _ _ _ ?_))
  clear hK1
  refine wp_seq' fun K2 hK2 => ?_
  refine wp_reg ?_
  refine ol_r (r_move rfl) rfl ?_
  refine ol_r (r_fa (o' := 0) rfl fl36_0 rfl) rfl ?_
  refine ol_r (r_ld (id := 4) rfl rfl rfl sc3) rfl ?_
  refine ol_r (r_fa (o' := 0) rfl fl36_0 rfl) rfl ?_
  refine ol_r (r_ld (id := 3) rfl rfl rfl sc3) rfl ?_
  refine ol_r (r_sub rfl rfl (by omega)) rfl ?_
  refine ol_r (r_mul rfl rfl (by omega)) rfl ?_
  refine ol_r (r_assign rfl) rfl ?_
  refine ol_nil (to_k0 (fun _ _ h => h) (hK2 _ _ _ _ _ ?_))
  clear hK2
  refine wp_seq' fun K3 hK3 => ?_
  refine wp_reg ?_
  refine ol_r (r_move rfl) rfl ?_
  refine ol_r (r_geq rfl rfl) rfl ?_
  refine ol_r (r_move rfl) rfl ?_
  refine ol_split (d := 17) rfl (fun hs17 => ?_) (fun hs17 => ?_)
  ·have phs17 := hs17; try simp only [decide_eq_true_eq, decide_eq_false_iff_not, Bool.not_eq_true', Bool.not_eq_false', Bool.not_true, Bool.not_false] at phs17
   refine ol_s rfl rfl hs17 rfl ?_
   refine ol_s rfl rfl hs17 rfl ?_
   refine ol_s rfl rfl hs17 rfl ?_
   refine ol_s rfl rfl hs17 rfl ?_
   refine ol_s rfl rfl hs17 rfl ?_
   refine ol_s rfl rfl hs17 rfl ?_
   refine ol_s rfl rfl hs17 rfl ?_
   refine ol_r (r_pickT rfl hs17 rfl) rfl ?_
   refine ol_r (r_assign rfl) rfl ?_
   refine ol_nil (to_k0 (fun _ _ h => h) (hK3 _ _ _ _ _ ?_))
   clear hK3
   refine hQ.ret (rvs1 (rv_t rfl)) (fun _ _ h => h) fun w hb hs hB hkd => ?_
   exact ⟨by rw [agB_far hp hq (by omega)], hb⟩
  ·have phs17 := hs17; try simp only [decide_eq_true_eq, decide_eq_false_iff_not, Bool.not_eq_true', Bool.not_eq_false', Bool.not_true, Bool.not_false] at phs17
   refine ol_g rfl rfl hs17 ?_
   refine ol_r (r_lda (id := 3) (n := 7) rfl rfl rfl ag36) rfl ?_
   refine ol_g rfl rfl hs17 ?_
   refine ol_r (r_lda (id := 4) (n := 7) rfl rfl rfl ag36) rfl ?_
   refine ol_g rfl rfl hs17 ?_
   refine ol_call rfl rfl cb47 rfl (fun w1 hb1 hs1 hB1 => Calls.mono (ref3_apart p q _ hp hq) ?_)
   rintro e w2 ⟨rfl, hb2⟩
   refine After.below rfl hb1 hs1 hB1 hb2 ?_
   clear hb2 hB1 hs1 hb1 w2 w1
   refine ol_g rfl rfl hs17 ?_
   refine ol_r (r_move rfl) rfl ?_
   refine ol_g rfl rfl hs17 ?_
   refine ol_r (r_move rfl) rfl ?_
   refine ol_g rfl rfl hs17 ?_
   have h2 := sq_bd (a := fast * (q.at_ - p.at_)) (M := 400000000) (by omega)
   refine ol_r (r_mul rfl rfl (by omega)) rfl ?_
   refine ol_g rfl rfl hs17 ?_
   refine ol_r (r_leq rfl rfl) rfl ?_
   refine ol_r (r_pickF rfl hs17 rfl) rfl ?_
   refine ol_r (r_assign rfl) rfl ?_
   refine ol_nil (to_k0 (fun _ _ h => h) (hK3 _ _ _ _ _ ?_))
   clear hK3
   refine hQ.ret (rvs1 (rv_t rfl)) (fun _ _ h => h) fun w hb hs hB hkd => ?_
   exact ⟨rfl, hb⟩
/-- What Keep returns. -/
def keepR (a : ActD) (fast : Int) : List Int × Int :=
  if chkA a ≠ 0 then ([], chkA a) else if ¬(1 ≤ fast ∧ fast ≤ 100000) then ([], 9) else if 2000 < a.ss.length then ([], 3)
  else (chainK (agS a.ss fast) a.ss.length (a.ss.length + 1) (firstL (agS a.ss fast) a.ss.length a.ss.length), 0)
theorem keepR_e {a : ActD} {f : Int} (h : chkA a ≠ 0) : keepR a f = ([], chkA a) := if_pos h
theorem keepR_9 {a : ActD} {f : Int} (h : chkA a = 0) (h1 : ¬(1 ≤ f ∧ f ≤ 100000)) : keepR a f = ([], 9) := by unfold keepR; rw [if_neg (by simp [h]), if_pos h1]
theorem keepR_3 {a : ActD} {f : Int} (h : chkA a = 0) (h1 : 1 ≤ f ∧ f ≤ 100000) (h2 : 2000 < a.ss.length) : keepR a f = ([], 3) := by unfold keepR; rw [if_neg (by simp [h]), if_neg (fun h3 => h3 h1), if_pos h2]
theorem keepR_0 {a : ActD} {f : Int} (h : chkA a = 0) (h1 : 1 ≤ f ∧ f ≤ 100000) (h2 : ¬2000 < a.ss.length) : keepR a f = (chainK (agS a.ss f) a.ss.length (a.ss.length + 1) (firstL (agS a.ss f) a.ss.length a.ss.length), 0) := by
  unfold keepR; rw [if_neg (by simp [h]), if_neg (fun h3 => h3 h1), if_neg h2]
/-- Neighbours in order of time. -/
theorem SmpOk.at_le {st : Int} {ss : List SmpR} (h : SmpOk st ss) {i : Nat} {p : SmpR} (hp : ss[i]? = some p) : ∀ (d : Nat) (q : SmpR), ss[i + d]? = some q → p.at_ ≤ q.at_
  | 0, q, hq => by rw [Nat.add_zero, hp] at hq; cases hq; exact Int.le_refl _
  | d + 1, q, hq => by
    have hlt := (List.getElem?_eq_some_iff.1 hq).1
    have h1 : ss[i + d]? = some (ss[i + d]'(by omega)) := List.getElem?_eq_getElem _
    have h2 := h.at_le hp d _ h1
    have h3 := h.rise (i + d) _ q h1 hq
    omega
theorem SmpOk.at_lt {st : Int} {ss : List SmpR} (h : SmpOk st ss) {i k : Nat} {p q : SmpR} (hp : ss[i]? = some p) (hq : ss[k]? = some q) (hik : i ≤ k) : 0 ≤ p.at_ ∧ p.at_ ≤ q.at_ ∧ q.at_ ≤ 1000000 := by
  refine ⟨(h.bd p (List.mem_of_getElem? hp)).1, h.at_le hp (k - i) q (by rw [show i + (k - i) = k by omega]; exact hq), (h.bd q (List.mem_of_getElem? hq)).2.1⟩
theorem slices_Max (a : Option Addr) (n cap : Nat) (xs : List Int) (w : World) (hl : Rd encI w.heap.size w a n cap xs) (hn : 0 < n) :
    Calls Try.prog 55 #[.slice a n cap] w fun e w' => ∃ m : Int, (m ∈ xs ∧ ∀ x ∈ xs, x ≤ m) ∧ e = .returned (.int .i64 m) ∧ Below w.heap.size w w' := by
  have hlen := hl.len
  have hfit := hl.fit
  subst hlen
  refine enterQ (N := 25) (C := fun _ => True) (H := []) (B := w.heap.size) (args := [_]) Try.func55 rfl rfl rfl (Nat.le_refl _) (Sat.nil _ _) fun Q hQ => ?_
  refine wp_seq' fun K1 hK1 => ?_
  refine wp_reg ?_
  refine ol_r (r_assign rfl) rfl ?_
  refine ol_nil (to_k0 (fun _ _ h => h) (hK1 _ _ _ _ _ ?_))
  clear hK1
  refine wp_seq' fun K2 hK2 => ?_
  refine wp_seq' fun K3 hK3 => ?_
  refine wp_reg ?_
  refine ol_r (r_move rfl) rfl ?_
  refine ol_r (r_len rfl sl34) rfl ?_
  refine ol_r (r_lss rfl rfl) rfl ?_
  refine ol_nil (to_k0 (fun _ _ h => h) (hK3 _ _ _ _ _ ?_))
  clear hK3
  first | refine wp_condD rfl (fun hc7 => ?_) (fun hc7 => ?_) | refine wp_condN rfl (fun hc7 => ?_) (fun hc7 => ?_) | refine wp_condNB rfl (fun hc7 => ?_) (fun hc7 => ?_) | refine wp_cond' rfl (fun hc7 => ?_) (fun hc7 => ?_)
  ·exfalso
   omega
  ·refine wp_skip' (to_k0 (fun _ _ h => h) (hK2 _ _ _ _ _ ?_))
   clear hK2
   refine wp_seq' fun K4 hK4 => ?_
   refine wp_reg ?_
   refine ol_r (r_move rfl) rfl ?_
   refine ol_ixr hl rfl rfl sl34 (by omega) rfl fun x10 hx10 => ?_
   try simp only [Int.toNat_natCast] at hx10
   refine ol_r (r_ldw rfl (fun w1 hb1 hs1 hB1 => show Loads _ _ _ _ (.int .i64 x10) from Rd.loads hl ty3 hx10 hb1)) rfl ?_
   refine ol_r (r_assign rfl) rfl ?_
   refine ol_nil (to_k0 (fun _ _ h => h) (hK4 _ _ _ _ _ ?_))
   clear hK4
   refine wp_seq' fun K5 hK5 => ?_
   refine wp_seq' fun K6 hK6 => ?_
   refine wp_reg ?_
   refine ol_r (r_assign rfl) rfl ?_
   refine ol_nil (to_k0 (fun _ _ h => h) (hK6 _ _ _ _ _ ?_))
   clear hK6
   refine wp_block' ?_
   apply wp_loopM (σ := Nat × Int) (fun s => 1 ≤ s.1 ∧ s.1 ≤ xs.length ∧ s.2 ∈ xs ∧ ∀ x ∈ xs.take s.1, x ≤ s.2) (fun s => [(4, .int .i64 s.1), (3, .int .i64 s.2)]) [(0, _), (2, _)] (fun s => []) [] (fun s => xs.length - s.1) ((1, x10))
   ·try dsimp only
    refine ⟨Nat.le_refl _, by omega, List.mem_of_getElem? hx10, fun x hx => ?_⟩
    rw [take_succ_get (k := 0) (by simpa using hx10)] at hx
    simp at hx
    omega
   ·exact (sub_cons rfl (sub_cons rfl sub_nil))
   ·exact (sub_cons rfl (sub_cons rfl sub_nil))
   ·exact subH_nil
   ·exact subH_nil
   ·rintro ⟨i, v⟩ ⟨h1, hi, hm, hP⟩
    dsimp only at h1 hi hm hP ⊢
    intro K7 hK7
    refine wp_seq' fun K8 hK8 => ?_
    refine wp_seq' fun K9 hK9 => ?_
    refine wp_reg ?_
    refine ol_r (r_move rfl) rfl ?_
    refine ol_r (r_move rfl) rfl ?_
    refine ol_r (r_len rfl sl34) rfl ?_
    refine ol_r (r_lss rfl rfl) rfl ?_
    refine ol_nil (to_k0 (fun _ _ h => h) (hK9 _ _ _ _ _ ?_))
    clear hK9
    first | refine wp_condD rfl (fun hc15 => ?_) (fun hc15 => ?_) | refine wp_condN rfl (fun hc15 => ?_) (fun hc15 => ?_) | refine wp_condNB rfl (fun hc15 => ?_) (fun hc15 => ?_) | refine wp_cond' rfl (fun hc15 => ?_) (fun hc15 => ?_)
    ·refine wp_skip' (to_k0 (fun _ _ h => h) (hK8 _ _ _ _ _ ?_))
     clear hK8
     refine wp_seq' fun K10 hK10 => ?_
     refine wp_block' ?_
     refine wp_reg ?_
     refine ol_r (r_move rfl) rfl ?_
     refine ol_r (r_move rfl) rfl ?_
     refine ol_r (r_move rfl) rfl ?_
     refine ol_ixr hl rfl rfl sl34 (by omega) rfl fun x21 hx21 => ?_
     try simp only [Int.toNat_natCast] at hx21
     refine ol_r (r_ldw rfl (fun w1 hb1 hs1 hB1 => show Loads _ _ _ _ (.int .i64 x21) from Rd.loads hl ty3 hx21 hb1)) rfl ?_
     refine ol_r (r_max rfl rfl) rfl ?_
     refine ol_r (r_assign rfl) rfl ?_
     refine ol_nil (to_k0 (fun _ _ h => h) (hK10 _ _ _ _ _ ?_))
     clear hK10
     refine wp_reg ?_
     refine ol_r (r_move rfl) rfl ?_
     refine ol_r (r_add rfl rfl (by omega)) rfl ?_
     refine ol_r (r_assign rfl) rfl ?_
     refine ol_nil (to_k0 (fun _ _ h => h) (hK7 ((i + 1, _)) _ _ ?_ ?_ (sub_cons rfl (sub_cons rfl sub_nil)) (sub_cons rfl (sub_cons rfl sub_nil)) (by exact subH_nil) subH_nil))
     ·try dsimp only
      refine ⟨by omega, by omega, ?_, fun x hx => ?_⟩
      · rcases Int.le_total v x21 with h | h
        · rw [Int.max_eq_right h]; exact List.mem_of_getElem? hx21
        · rw [Int.max_eq_left h]; exact hm
      · rw [take_succ_get hx21] at hx
        rcases List.mem_append.1 hx with hx | hx
        · have := hP x hx; omega
        · simp at hx; omega
     ·try dsimp only
      omega
    ·refine wp_exit' (to_k0 (fun _ _ h => h) (hK5 _ _ _ _ _ ?_))
     clear hK5
     refine wp_seq' fun K11 hK11 => ?_
     refine wp_reg ?_
     refine ol_r (r_move rfl) rfl ?_
     refine ol_r (r_assign rfl) rfl ?_
     refine ol_nil (to_k0 (fun _ _ h => h) (hK11 _ _ _ _ _ ?_))
     clear hK11
     refine hQ.ret (rvs1 (rv_t rfl)) (fun _ _ h => h) fun w hb hs hB hkd => ?_
     have hin : i = xs.length := by omega
     subst hin
     rw [List.take_length] at hP
     exact ⟨v, ⟨hm, hP⟩, rfl, hb⟩
theorem slices_Index (a : Option Addr) (n cap : Nat) (xs : List Int) (v : Int) (w : World) (hl : Rd encI w.heap.size w a n cap xs) :
    Calls Try.prog 54 #[.slice a n cap, .int .i64 v] w fun e w' => ∃ r : Int, ((r = -1 ∧ ∀ j : Nat, xs[j]? ≠ some v) ∨ ∃ k : Nat, r = k ∧ xs[k]? = some v ∧ ∀ j : Nat, j < k → xs[j]? ≠ some v) ∧ e = .returned (.int .i64 r) ∧ Below w.heap.size w w' := by
  have hn := hl.len
  have hfit := hl.fit
  refine enterQ (N := 19) (C := fun _ => True) (H := []) (B := w.heap.size) (args := [_, _]) Try.func54 rfl rfl rfl (Nat.le_refl _) (Sat.nil _ _) fun Q hQ => ?_
  refine wp_seq' fun K1 hK1 => ?_
  refine wp_reg ?_
  refine ol_r (r_assign rfl) rfl ?_
  refine ol_nil (to_k0 (fun _ _ h => h) (hK1 _ _ _ _ _ ?_))
  clear hK1
  refine wp_seq' fun K2 hK2 => ?_
  refine wp_seq' fun K3 hK3 => ?_
  refine wp_reg ?_
  refine ol_r (r_move rfl) rfl ?_
  refine ol_r (r_len rfl sl34) rfl ?_
  refine ol_r (r_move rfl) rfl ?_
  refine ol_nil (to_k0 (fun _ _ h => h) (hK3 _ _ _ _ _ ?_))
  clear hK3
  refine wp_block' ?_
  apply wp_loopM (σ := Nat) (fun s => s ≤ xs.length ∧ ∀ j : Nat, j < s → xs[j]? ≠ some v) (fun s => [(8, .int .i64 s)]) [(0, _), (1, _), (7, _)] (fun s => []) [] (fun s => xs.length - s) (0)
  ·try dsimp only
   exact ⟨Nat.zero_le _, fun j h => by omega⟩
  ·exact (sub_cons rfl sub_nil)
  ·exact (sub_cons rfl (sub_cons rfl (sub_cons rfl sub_nil)))
  ·exact subH_nil
  ·exact subH_nil
  ·rintro k ⟨hk, hP⟩
   intro K4 hK4
   refine wp_seq' fun K5 hK5 => ?_
   refine wp_reg ?_
   refine ol_r (r_lss rfl rfl) rfl ?_
   refine ol_nil (to_k0 (fun _ _ h => h) (hK5 _ _ _ _ _ ?_))
   clear hK5
   refine wp_seq' fun K6 hK6 => ?_
   first | refine wp_condD rfl (fun hc9 => ?_) (fun hc9 => ?_) | refine wp_condN rfl (fun hc9 => ?_) (fun hc9 => ?_) | refine wp_condNB rfl (fun hc9 => ?_) (fun hc9 => ?_) | refine wp_cond' rfl (fun hc9 => ?_) (fun hc9 => ?_)
   ·refine wp_skip' (to_k0 (fun _ _ h => h) (hK6 _ _ _ _ _ ?_))
    clear hK6
    refine wp_seq' fun K7 hK7 => ?_
    refine wp_block' ?_
    refine wp_seq' fun K8 hK8 => ?_
    refine wp_reg ?_
    refine ol_r (r_move rfl) rfl ?_
    refine ol_r (r_assign rfl) rfl ?_
    refine ol_nil (to_k0 (fun _ _ h => h) (hK8 _ _ _ _ _ ?_))
    clear hK8
    refine wp_seq' fun K9 hK9 => ?_
    refine wp_reg ?_
    refine ol_r (r_move rfl) rfl ?_
    refine ol_r (r_move rfl) rfl ?_
    refine ol_r (r_move rfl) rfl ?_
    refine ol_ixr hl rfl rfl sl34 (by omega) rfl fun x14 hx14 => ?_
    try simp only [Int.toNat_natCast] at hx14
    refine ol_r (r_ldw rfl (fun w1 hb1 hs1 hB1 => show Loads _ _ _ _ (.int .i64 x14) from Rd.loads hl ty3 hx14 hb1)) rfl ?_
    refine ol_r (r_eql rfl rfl) rfl ?_
    refine ol_nil (to_k0 (fun _ _ h => h) (hK9 _ _ _ _ _ ?_))
    clear hK9
    first | refine wp_condD rfl (fun hc16 => ?_) (fun hc16 => ?_) | refine wp_condN rfl (fun hc16 => ?_) (fun hc16 => ?_) | refine wp_condNB rfl (fun hc16 => ?_) (fun hc16 => ?_) | refine wp_cond' rfl (fun hc16 => ?_) (fun hc16 => ?_)
    ·refine wp_seq' fun K10 hK10 => ?_
     refine wp_reg ?_
     refine ol_r (r_move rfl) rfl ?_
     refine ol_r (r_assign rfl) rfl ?_
     refine ol_nil (to_k0 (fun _ _ h => h) (hK10 _ _ _ _ _ ?_))
     clear hK10
     refine hQ.ret (rvs1 (rv_t rfl)) (fun _ _ h => h) fun w hb hs hB hkd => ?_
     exact ⟨k, .inr ⟨k, rfl, by rw [hx14, hc16], hP⟩, rfl, hb⟩
    ·refine wp_skip' (to_k0 (fun _ _ h => h) (hK7 _ _ _ _ _ ?_))
     clear hK7
     refine wp_reg ?_
     refine ol_r (r_add rfl rfl (by omega)) rfl ?_
     refine ol_r (r_move rfl) rfl ?_
     refine ol_nil (to_k0 (fun _ _ h => h) (hK4 (k + 1) _ _ ?_ ?_ (sub_cons rfl sub_nil) (sub_cons rfl (sub_cons rfl (sub_cons rfl sub_nil))) (by exact subH_nil) subH_nil))
     ·try dsimp only
      refine ⟨by omega, fun j hj => ?_⟩
      by_cases h : j < k
      · exact hP j h
      · have hjk : j = k := by omega
        subst hjk
        rw [hx14]
        intro h2
        cases h2
        exact hc16 rfl
     ·try dsimp only
      omega
   ·refine wp_exit' (to_k0 (fun _ _ h => h) (hK2 _ _ _ _ _ ?_))
    clear hK2
    refine wp_seq' fun K11 hK11 => ?_
    refine wp_reg ?_
    refine ol_r (r_assign rfl) rfl ?_
    refine ol_nil (to_k0 (fun _ _ h => h) (hK11 _ _ _ _ _ ?_))
    clear hK11
    refine hQ.ret (rvs1 (rv_t rfl)) (fun _ _ h => h) fun w hb hs hB hkd => ?_
    exact ⟨-1, .inl ⟨rfl, fun j => by
      by_cases h : j < k
      · exact hP j h
      · rw [List.getElem?_eq_none (by omega)]; simp⟩, rfl, hb⟩
end Go.Proofs.Ytlbcefnbjdpljaa
