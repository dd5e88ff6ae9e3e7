/-
  How activities lie in memory.
-/
import Derived.Test.YtogcclagmobkiaaEnc
import Derived.Test.YtogcclagmobkiaaActM
namespace Go.Proofs.Ytogcclagmobkiaa
open Go Go.RowKit Hx
set_option linter.unusedVariables false
def encSmp : Enc SmpR := { size := 7, cells := fun x => [.int .i64 x.at_, .int .i64 x.x, .int .i64 x.y, .int .i64 x.z, .int .i64 x.pulse, .int .i64 x.power, .int .i64 x.steps], val := fun x => .agg #[.int .i64 x.at_, .int .i64 x.x, .int .i64 x.y, .int .i64 x.z, .int .i64 x.pulse, .int .i64 x.power, .int .i64 x.steps], len := fun _ => rfl, ones := fun _ u h => (by simp at h; rcases h with h | h | h | h | h | h | h <;> subst h <;> rfl), pos := by decide, vc := fun _ => rfl }
def mk_encSample (a b c d e f g : Int) : SmpR := ⟨a, b, c, d, e, f, g⟩
theorem ty28 : Ty Try.prog 28 encSmp := .inr ⟨ag28, fun _ => rfl⟩
def encLap : Enc LapR := { size := 3, cells := fun x => [.int .i64 x.from_, .int .i64 x.to, .string x.name], val := fun x => .agg #[.int .i64 x.from_, .int .i64 x.to, .string x.name], len := fun _ => rfl, ones := fun _ u h => (by simp at h; rcases h with h | h | h <;> subst h <;> rfl), pos := by decide, vc := fun _ => rfl }
def mk_encLap (a b : Int) (c : ByteArray) : LapR := ⟨a, b, c⟩
theorem ty66 : Ty Try.prog 66 encLap := .inr ⟨ag66, fun _ => rfl⟩
def encStr : Enc ByteArray := { size := 1, cells := fun x => [.string x], val := fun x => .string x, len := fun _ => rfl, ones := fun _ u h => by simp at h; subst h; rfl, pos := by decide, vc := fun _ => rfl }
theorem ty9 : Ty Try.prog 9 encStr := .inl ⟨sc9, fun _ => rfl⟩
/-- An activity's value, and the lists that its slices read as. -/
structure ActV where
  name : ByteArray
  sport : Int
  start : Int
  sa : Option Addr
  sn : Nat
  sc : Nat
  la : Option Addr
  ln : Nat
  lc : Nat
  ta : Option Addr
  tn : Nat
  tc : Nat
  ss : List SmpR
  ls : List LapR
  ts : List ByteArray
def ActV.d (v : ActV) : ActD := ⟨v.name, v.sport, v.start, v.ss, v.ls, v.ts⟩
def maxS : Nat := 9223372036854775807
structure ActV.Ok (C : Nat) (w : World) (v : ActV) : Prop where
  s : Rd encSmp C w v.sa v.sn v.sc v.ss
  l : Rd encLap C w v.la v.ln v.lc v.ls
  t : Rd encStr C w v.ta v.tn v.tc v.ts
  nm : v.name.size ≤ 9223372036854775807
  lm : ∀ x ∈ v.ls, x.name.size ≤ 9223372036854775807
  tm : ∀ x ∈ v.ts, x.size ≤ 9223372036854775807
  lo : ∀ x ∈ v.ss, -9223372036854775808 ≤ x.at_ ∧ x.at_ ≤ 9223372036854775807
theorem ActV.Ok.at {B : Nat} {w0 w : World} {v : ActV} (h : v.Ok B w0) (hb : Below B w0 w) (hB : B ≤ w.heap.size) : v.Ok w.heap.size w := ⟨h.s.at hb hB, h.l.at hb hB, h.t.at hb hB, h.nm, h.lm, h.tm, h.lo⟩
theorem ActV.Ok.below {B : Nat} {w0 w : World} {v : ActV} (h : v.Ok B w0) (hb : Below B w0 w) : v.Ok B w := ⟨h.s.below hb, h.l.below hb, h.t.below hb, h.nm, h.lm, h.tm, h.lo⟩
end Go.Proofs.Ytogcclagmobkiaa
