/-
  Climbs: no line is worth more than what is told. No program stands here.
-/
import Derived.Test.YtlbcefnbjdpljaaClimbM
namespace Go.Proofs.Ytlbcefnbjdpljaa
set_option linter.unusedVariables false
def absD (a b : Int) : Int := max (a - b) (b - a)
theorem absD_or (a b : Int) : (absD a b = a - b ∧ b ≤ a) ∨ (absD a b = b - a ∧ a ≤ b) := by unfold absD; omega
/-- A line of turns that ends at sample i: how much it goes up and down, and how many turns it has. -/
inductive Reach (ss : List SmpR) : Nat → Int → Nat → Prop
  | zero : Reach ss 0 0 0
  | step {i j : Nat} {v : Int} {c : Nat} : Reach ss i v c → i < j → Reach ss j (v + absD (zAt ss j) (zAt ss i)) (c + 1)
theorem Reach.zero' {ss : List SmpR} {i : Nat} {v : Int} {c : Nat} (h : Reach ss i v c) (hi : i ≤ 0) : i = 0 ∧ v = 0 ∧ c = 0 := by
  cases h with
  | zero => exact ⟨rfl, rfl, rfl⟩
  | step h1 h2 => omega
theorem Reach.par {ss : List SmpR} {i : Nat} {v : Int} {c : Nat} (h : Reach ss i v c) : (∃ q : Int, 0 ≤ q ∧ v = zAt ss i - zAt ss 0 + 2 * q) ∧ 0 ≤ v + (zAt ss i - zAt ss 0) := by
  induction h with
  | zero => exact ⟨⟨0, by omega, by omega⟩, by omega⟩
  | @step i j v c h1 h2 ih =>
    obtain ⟨⟨q, h3, h4⟩, h5⟩ := ih
    rcases absD_or (zAt ss j) (zAt ss i) with ⟨a, b⟩ | ⟨a, b⟩
    · exact ⟨⟨q, h3, by omega⟩, by omega⟩
    · exact ⟨⟨q + (zAt ss i - zAt ss j), by omega, by omega⟩, by omega⟩
theorem pickB_ge (a b : Int × Int) : a.1 ≤ (pickB a b).1 ∧ b.1 ≤ (pickB a b).1 := by
  unfold pickB
  by_cases h : betB a b = true
  · rw [if_pos h]
    have := betB_t h
    omega
  · rw [if_neg h]
    refine ⟨?_, Int.le_refl _⟩
    apply Decidable.byContradiction
    intro hlt
    exact h (by unfold betB; rw [decide_eq_true (show b.1 < a.1 by omega)]; rfl)
theorem pickB_or (a b : Int × Int) : pickB a b = a ∨ pickB a b = b := by unfold pickB; split <;> simp
structure ClmInv (ss : List SmpR) (th : Int) (k : Nat) (s : Clm) : Prop where
  ua : ∀ i v c, Reach ss i v c → i ≤ k → v - th * c - zAt ss i ≤ s.u.1
  da : ∀ i v c, Reach ss i v c → i ≤ k → v - th * c + zAt ss i ≤ s.d.1
  ub : ∃ i v c, Reach ss i v c ∧ i ≤ k ∧ s.u = (v - th * c - zAt ss i, (c : Int))
  db : ∃ i v c, Reach ss i v c ∧ i ≤ k ∧ s.d = (v - th * c + zAt ss i, (c : Int))
theorem ClmInv.oa {ss : List SmpR} {th : Int} {k : Nat} {s : Clm} (h : ClmInv ss th k s) (z : Int) : ∀ i v c, Reach ss i v c → i ≤ k → v - th * c + absD z (zAt ss i) ≤ (s.on z).1 := by
  intro i v c h1 h2
  have a := h.ua i v c h1 h2
  have b := h.da i v c h1 h2
  have g := pickB_ge (s.d.1 - z, s.d.2) (s.u.1 + z, s.u.2)
  show _ ≤ (pickB (s.d.1 - z, s.d.2) (s.u.1 + z, s.u.2)).1
  dsimp only at g
  rcases absD_or z (zAt ss i) with ⟨e, _⟩ | ⟨e, _⟩ <;> omega
theorem ClmInv.ob {ss : List SmpR} {th : Int} {k : Nat} {s : Clm} (h : ClmInv ss th k s) (z : Int) : ∃ i v c, Reach ss i v c ∧ i ≤ k ∧ s.on z = (v - th * c + absD z (zAt ss i), (c : Int)) := by
  rcases pickB_or (s.d.1 - z, s.d.2) (s.u.1 + z, s.u.2) with e | e
  · obtain ⟨i, v, c, h1, h2, h3⟩ := h.db
    have ha := h.oa z i v c h1 h2
    rw [show s.on z = _ from e] at ha
    refine ⟨i, v, c, h1, h2, ?_⟩
    rw [show s.on z = _ from e, h3]
    rw [h3] at ha
    dsimp only at ha ⊢
    rw [Prod.mk.injEq]
    refine ⟨?_, rfl⟩
    rcases absD_or z (zAt ss i) with ⟨a, _⟩ | ⟨a, _⟩ <;> omega
  · obtain ⟨i, v, c, h1, h2, h3⟩ := h.ub
    have ha := h.oa z i v c h1 h2
    rw [show s.on z = _ from e] at ha
    refine ⟨i, v, c, h1, h2, ?_⟩
    rw [show s.on z = _ from e, h3]
    rw [h3] at ha
    dsimp only at ha ⊢
    rw [Prod.mk.injEq]
    refine ⟨?_, rfl⟩
    rcases absD_or z (zAt ss i) with ⟨a, _⟩ | ⟨a, _⟩ <;> omega
theorem ClmInv.next {ss : List SmpR} {th : Int} {k : Nat} {s : Clm} (h : ClmInv ss th k s) {x : SmpR} (hx : zAt ss (k + 1) = x.z) : ClmInv ss th (k + 1) (s.next th x) := by
  have hoa := h.oa x.z
  have hob := h.ob x.z
  have gu := pickB_ge ((s.on x.z).1 - th - x.z, (s.on x.z).2 + 1) s.u
  have gd := pickB_ge ((s.on x.z).1 - th + x.z, (s.on x.z).2 + 1) s.d
  dsimp only at gu gd
  have hm : ∀ c : Nat, th * ((c + 1 : Nat) : Int) = th * c + th := fun c => by rw [Int.natCast_add, Int.mul_add]; simp
  refine ⟨fun i v c h1 h2 => ?_, fun i v c h1 h2 => ?_, ?_, ?_⟩
  · show _ ≤ (pickB ((s.on x.z).1 - th - x.z, (s.on x.z).2 + 1) s.u).1
    by_cases hi : i ≤ k
    · have := h.ua i v c h1 hi; omega
    · have hik : i = k + 1 := by omega
      subst hik
      cases h1 with
      | @step i' _ v' c' h3 h4 =>
        have := hoa i' v' c' h3 (by omega)
        rw [hm, hx]; omega
  · show _ ≤ (pickB ((s.on x.z).1 - th + x.z, (s.on x.z).2 + 1) s.d).1
    by_cases hi : i ≤ k
    · have := h.da i v c h1 hi; omega
    · have hik : i = k + 1 := by omega
      subst hik
      cases h1 with
      | @step i' _ v' c' h3 h4 =>
        have := hoa i' v' c' h3 (by omega)
        rw [hm, hx]; omega
  · show ∃ i v c, Reach ss i v c ∧ i ≤ k + 1 ∧ pickB ((s.on x.z).1 - th - x.z, (s.on x.z).2 + 1) s.u = _
    rcases pickB_or ((s.on x.z).1 - th - x.z, (s.on x.z).2 + 1) s.u with e | e
    · obtain ⟨i, v, c, h1, h2, h3⟩ := hob
      refine ⟨k + 1, _, c + 1, h1.step (show i < k + 1 by omega), Nat.le_refl _, ?_⟩
      rw [e, h3, hm, hx]
      dsimp only
      rw [Prod.mk.injEq]
      exact ⟨by omega, by omega⟩
    · obtain ⟨i, v, c, h1, h2, h3⟩ := h.ub
      exact ⟨i, v, c, h1, by omega, by rw [e, h3]⟩
  · show ∃ i v c, Reach ss i v c ∧ i ≤ k + 1 ∧ pickB ((s.on x.z).1 - th + x.z, (s.on x.z).2 + 1) s.d = _
    rcases pickB_or ((s.on x.z).1 - th + x.z, (s.on x.z).2 + 1) s.d with e | e
    · obtain ⟨i, v, c, h1, h2, h3⟩ := hob
      refine ⟨k + 1, _, c + 1, h1.step (show i < k + 1 by omega), Nat.le_refl _, ?_⟩
      rw [e, h3, hm, hx]
      dsimp only
      rw [Prod.mk.injEq]
      exact ⟨by omega, by omega⟩
    · obtain ⟨i, v, c, h1, h2, h3⟩ := h.db
      exact ⟨i, v, c, h1, by omega, by rw [e, h3]⟩
theorem clmInv {ss : List SmpR} {th : Int} : ∀ k, k + 1 ≤ ss.length → ClmInv ss th k (clmK th (zAt ss 0) ss.tail k)
  | 0, _ => by
    rw [clmK_zero]
    refine ⟨fun i v c h1 h2 => ?_, fun i v c h1 h2 => ?_, ⟨0, 0, 0, .zero, Nat.le_refl _, ?_⟩, ⟨0, 0, 0, .zero, Nat.le_refl _, ?_⟩⟩
    · obtain ⟨rfl, rfl, rfl⟩ := h1.zero' h2; simp [Clm.init]
    · obtain ⟨rfl, rfl, rfl⟩ := h1.zero' h2; simp [Clm.init]
    · simp [Clm.init]
    · simp [Clm.init]
  | k + 1, hk => by
    have hx : ss[k + 1]? = some ss[k + 1] := List.getElem?_eq_getElem (by omega)
    have hx2 : ss.tail[k]? = some ss[k + 1] := by rw [List.getElem?_tail]; exact hx
    rw [clmK_succ hx2]
    exact (clmInv k (by omega)).next (zAt_eq hx)
/-- What Climb tells: the best line, and that it is the best. -/
theorem zig_facts {ss : List SmpR} {th : Int} (hn : 2 ≤ ss.length) : ∃ i v c q, Reach ss i v c ∧ i + 1 < ss.length ∧ 0 ≤ q ∧ 0 ≤ zAt ss (ss.length - 1) - zAt ss 0 + q ∧ v + absD (zAt ss (ss.length - 1)) (zAt ss i) = zAt ss (ss.length - 1) - zAt ss 0 + 2 * q ∧
    zigR th ss = (zAt ss (ss.length - 1) - zAt ss 0 + q, q, (c : Int)) ∧ ∀ i' v' c', Reach ss i' v' c' → i' + 1 < ss.length → v' - th * c' + absD (zAt ss (ss.length - 1)) (zAt ss i') ≤ v - th * c + absD (zAt ss (ss.length - 1)) (zAt ss i) := by
  obtain ⟨k, hk⟩ : ∃ k, ss.length = k + 2 := ⟨ss.length - 2, by omega⟩
  have hx : ss[k + 1]? = some ss[k + 1] := List.getElem?_eq_getElem (by omega)
  have hx2 : ss.tail[k]? = some ss[k + 1] := by rw [List.getElem?_tail]; exact hx
  have hI := clmInv (th := th) k (ss := ss) (by omega)
  have hz := zAt_eq hx
  have ho : (clmK th (zAt ss 0) ss.tail (ss.length - 1)).o = (clmK th (zAt ss 0) ss.tail k).on (zAt ss (k + 1)) := by
    rw [show ss.length - 1 = k + 1 by omega, clmK_succ hx2, hz]; rfl
  obtain ⟨i, v, c, h1, h2, h3⟩ := hI.ob (zAt ss (k + 1))
  have hs := h1.step (show i < k + 1 by omega)
  obtain ⟨⟨q, p1, p2⟩, p3⟩ := hs.par
  have e1 : ss.length - 1 = k + 1 := by omega
  rw [e1]
  refine ⟨i, v, c, q, h1, by omega, p1, by omega, p2, ?_, fun i' v' c' g1 g2 => ?_⟩
  · unfold zigR
    rw [ho, h3, e1]
    dsimp only
    have a1 : v - th * c + absD (zAt ss (k + 1)) (zAt ss i) + th * c = zAt ss (k + 1) - zAt ss 0 + 2 * q := by omega
    rw [a1]
    rw [Prod.mk.injEq, Prod.mk.injEq]
    refine ⟨?_, ?_, rfl⟩
    · rw [Int.tdiv_eq_ediv_of_nonneg (by omega)]; omega
    · rw [Int.tdiv_eq_ediv_of_nonneg (by omega)]; omega
  · have := hI.oa (zAt ss (k + 1)) i' v' c' g1 (by omega)
    rw [h3] at this
    exact this
/-- With a greater threshold neither is greater. -/
theorem zig_less {ss : List SmpR} {lo hi : Int} (hn : 2 ≤ ss.length) (h0 : 0 ≤ lo) (hlh : lo ≤ hi) : (zigR hi ss).1 ≤ (zigR lo ss).1 ∧ (zigR hi ss).2.1 ≤ (zigR lo ss).2.1 := by
  by_cases heq : lo = hi
  · subst heq; exact ⟨Int.le_refl _, Int.le_refl _⟩
  · obtain ⟨i, v, c, q, h1, h2, h3, h4, h5, h6, h7⟩ := zig_facts (th := lo) hn
    obtain ⟨i', v', c', q', g1, g2, g3, g4, g5, g6, g7⟩ := zig_facts (th := hi) hn
    have a := h7 i' v' c' g1 g2
    have b := g7 i v c h1 h2
    rw [h6, g6]
    dsimp only
    have hq : q' ≤ q := by
      by_cases hc : (c' : Int) ≤ c
      · have := Int.mul_le_mul_of_nonneg_left hc h0
        omega
      · have e1 : lo * (c' : Int) - lo * c = lo * ((c' : Int) - c) := by rw [Int.mul_sub]
        have e2 : hi * (c' : Int) - hi * c = hi * ((c' : Int) - c) := by rw [Int.mul_sub]
        have h8 : lo * ((c' : Int) - c) < hi * ((c' : Int) - c) := Int.mul_lt_mul_of_pos_right (by omega) (by omega)
        omega
    omega
theorem zAt_bd {ss : List SmpR} (hz : ∀ x ∈ ss, -100000 ≤ x.z ∧ x.z ≤ 100000) (i : Nat) : -100000 ≤ zAt ss i ∧ zAt ss i ≤ 100000 := by
  cases h : ss[i]? with
  | none => simp [zAt, h]
  | some x => rw [zAt_eq h]; exact hz x (List.mem_of_getElem? h)
theorem Reach.bd {ss : List SmpR} (hz : ∀ x ∈ ss, -100000 ≤ x.z ∧ x.z ≤ 100000) {i : Nat} {v : Int} {c : Nat} (h : Reach ss i v c) : 0 ≤ v ∧ v ≤ 200000 * i ∧ c ≤ i := by
  induction h with
  | zero => exact ⟨by omega, by omega, by omega⟩
  | @step i j v c h1 h2 ih =>
    have a := zAt_bd hz i
    have b := zAt_bd hz j
    rcases absD_or (zAt ss j) (zAt ss i) with ⟨e, _⟩ | ⟨e, _⟩ <;> omega
theorem climbR_inv {a : ActD} {th : Int} (h : (climbR a th).2 = 0) : chkA a = 0 ∧ (0 ≤ th ∧ th ≤ 200000) ∧ (a.ss.length < 2 → (climbR a th).1 = (0, 0, 0)) ∧ (¬a.ss.length < 2 → (climbR a th).1 = zigR th a.ss) := by
  by_cases h1 : chkA a ≠ 0
  · rw [climbR_e h1] at h; exact absurd h h1
  · have h1 := Decidable.not_not.1 h1
    by_cases h2 : 0 ≤ th ∧ th ≤ 200000
    · exact ⟨h1, h2, fun h3 => by rw [climbR_0 h1 h2 h3], fun h3 => by rw [climbR_z h1 h2 h3]⟩
    · rw [climbR_9 h1 h2] at h; exact absurd h (by decide)
end Go.Proofs.Ytlbcefnbjdpljaa
