/-
  Climbs: the best line of turns. No program stands here.
-/
import Derived.Test.YtogcclagmobkiaaRootM
namespace Go.Proofs.Ytogcclagmobkiaa
set_option linter.unusedVariables false
theorem SmpOk.hgt {st : Int} {ss : List SmpR} (h : SmpOk st ss) {x : SmpR} (hx : x ∈ ss) : -100000 ≤ x.z ∧ x.z ≤ 100000 := (h.bd x hx).2.2.2.2.2.1
def betB (a b : Int × Int) : Bool := decide (b.1 < a.1) || (decide (a.1 = b.1) && decide (a.2 < b.2))
theorem betB_t {a b : Int × Int} (h : betB a b = true) : b.1 < a.1 ∨ (a.1 = b.1 ∧ a.2 < b.2) := by
  unfold betB at h; simp at h; exact h
def pickB (a b : Int × Int) : Int × Int := if betB a b = true then a else b
theorem pickB_t {a b : Int × Int} (h : betB a b = true) : pickB a b = a := if_pos h
theorem pickB_f {a b : Int × Int} (h : ¬betB a b = true) : pickB a b = b := if_neg h
theorem pickB_bd {a b : Int × Int} {L U m M : Int} (ha : L ≤ a.1 ∧ a.1 ≤ U ∧ m ≤ a.2 ∧ a.2 ≤ M) (hb : L ≤ b.1 ∧ b.1 ≤ U ∧ m ≤ b.2 ∧ b.2 ≤ M) : L ≤ (pickB a b).1 ∧ (pickB a b).1 ≤ U ∧ m ≤ (pickB a b).2 ∧ (pickB a b).2 ≤ M := by
  unfold pickB; split <;> assumption
/-- Up, down and now; one sample more. -/
structure Clm where
  u : Int × Int
  d : Int × Int
  o : Int × Int
def Clm.on (s : Clm) (z : Int) : Int × Int := pickB (s.d.1 - z, s.d.2) (s.u.1 + z, s.u.2)
def Clm.next (th : Int) (s : Clm) (x : SmpR) : Clm :=
  ⟨pickB ((s.on x.z).1 - th - x.z, (s.on x.z).2 + 1) s.u, pickB ((s.on x.z).1 - th + x.z, (s.on x.z).2 + 1) s.d, s.on x.z⟩
def Clm.init (f : Int) : Clm := ⟨(-f, 0), (f, 0), (0, 0)⟩
def clmK (th f : Int) (ss : List SmpR) (k : Nat) : Clm := (ss.take k).foldl (Clm.next th) (Clm.init f)
theorem clmK_zero (th f : Int) (ss : List SmpR) : clmK th f ss 0 = Clm.init f := rfl
theorem clmK_succ {th f : Int} {ss : List SmpR} {k : Nat} {x : SmpR} (hx : ss[k]? = some x) : clmK th f ss (k + 1) = Clm.next th (clmK th f ss k) x := by
  unfold clmK; rw [take_succ_get hx, List.foldl_append]; rfl
def Clm.Bd (n : Int) (s : Clm) : Prop := (-n ≤ s.u.1 ∧ s.u.1 ≤ n ∧ 0 ≤ s.u.2 ∧ s.u.2 ≤ n) ∧ (-n ≤ s.d.1 ∧ s.d.1 ≤ n ∧ 0 ≤ s.d.2 ∧ s.d.2 ≤ n) ∧ (-n ≤ s.o.1 ∧ s.o.1 ≤ n ∧ 0 ≤ s.o.2 ∧ s.o.2 ≤ n)
theorem Clm.on_bd {n z : Int} {s : Clm} (h : s.Bd n) (hz : -100000 ≤ z ∧ z ≤ 100000) : -(n + 100000) ≤ (s.on z).1 ∧ (s.on z).1 ≤ n + 100000 ∧ 0 ≤ (s.on z).2 ∧ (s.on z).2 ≤ n := by
  obtain ⟨h1, h2, h3⟩ := h
  exact pickB_bd (by dsimp only; omega) (by dsimp only; omega)
theorem Clm.next_bd {n th : Int} {s : Clm} {x : SmpR} (h : s.Bd n) (hz : -100000 ≤ x.z ∧ x.z ≤ 100000) (ht : 0 ≤ th ∧ th ≤ 200000) : (s.next th x).Bd (n + 400000) := by
  have ho := Clm.on_bd h hz
  obtain ⟨h1, h2, h3⟩ := h
  exact ⟨pickB_bd (by dsimp only; omega) (by omega), pickB_bd (by dsimp only; omega) (by omega), by show _ ≤ (s.on x.z).1 ∧ (s.on x.z).1 ≤ _ ∧ _ ≤ (s.on x.z).2 ∧ (s.on x.z).2 ≤ _; omega⟩
theorem clmK_bd {th f : Int} {ss : List SmpR} (hf : -100000 ≤ f ∧ f ≤ 100000) (hz : ∀ x ∈ ss, -100000 ≤ x.z ∧ x.z ≤ 100000) (ht : 0 ≤ th ∧ th ≤ 200000) : ∀ k, k ≤ ss.length → (clmK th f ss k).Bd (100000 + 400000 * k)
  | 0, _ => by rw [clmK_zero]; refine ⟨⟨?_, ?_, ?_, ?_⟩, ⟨?_, ?_, ?_, ?_⟩, ⟨?_, ?_, ?_, ?_⟩⟩ <;> (simp only [Clm.init]; omega)
  | k + 1, hk => by
    have hx : ss[k]? = some ss[k] := List.getElem?_eq_getElem (by omega)
    rw [clmK_succ hx]
    have := Clm.next_bd (clmK_bd hf hz ht k (by omega)) (hz _ (List.mem_of_getElem? hx)) ht
    rw [show (100000 + 400000 * ((k + 1 : Nat) : Int)) = 100000 + 400000 * (k : Int) + 400000 by omega]
    exact this
def zAt (ss : List SmpR) (i : Nat) : Int := (ss[i]?).elim 0 (·.z)
theorem zAt_eq {ss : List SmpR} {i : Nat} {x : SmpR} (h : ss[i]? = some x) : zAt ss i = x.z := by simp [zAt, h]
def zigR (th : Int) (ss : List SmpR) : Int × Int × Int :=
  let o := (clmK th (zAt ss 0) ss.tail (ss.length - 1)).o
  let all := o.1 + th * o.2
  let g := zAt ss (ss.length - 1) - zAt ss 0
  (Int.tdiv (all + g) 2, Int.tdiv (all - g) 2, o.2)
def climbR (a : ActD) (th : Int) : (Int × Int × Int) × Int :=
  if chkA a ≠ 0 then ((0, 0, 0), chkA a) else if ¬(0 ≤ th ∧ th ≤ 200000) then ((0, 0, 0), 9) else if a.ss.length < 2 then ((0, 0, 0), 0) else (zigR th a.ss, 0)
theorem climbR_e {a : ActD} {th : Int} (h : chkA a ≠ 0) : climbR a th = ((0, 0, 0), chkA a) := if_pos h
theorem climbR_9 {a : ActD} {th : Int} (h : chkA a = 0) (h1 : ¬(0 ≤ th ∧ th ≤ 200000)) : climbR a th = ((0, 0, 0), 9) := by unfold climbR; rw [if_neg (by simp [h]), if_pos h1]
theorem climbR_0 {a : ActD} {th : Int} (h : chkA a = 0) (h1 : 0 ≤ th ∧ th ≤ 200000) (h2 : a.ss.length < 2) : climbR a th = ((0, 0, 0), 0) := by unfold climbR; rw [if_neg (by simp [h]), if_neg (by simp [h1]), if_pos h2]
theorem climbR_z {a : ActD} {th : Int} (h : chkA a = 0) (h1 : 0 ≤ th ∧ th ≤ 200000) (h2 : ¬a.ss.length < 2) : climbR a th = (zigR th a.ss, 0) := by unfold climbR; rw [if_neg (by simp [h]), if_neg (by simp [h1]), if_neg h2]
end Go.Proofs.Ytogcclagmobkiaa
