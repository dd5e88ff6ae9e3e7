/-
  No cell of these rows narrows 'for every input' (looked for: loops, veiled, ifaces, maps, wideKeys, modest, calm, conditions, laid).
  DERIVED. THE GIVEN ROWS OF THIS SEAT. 8 by the template 'for every input the law returns true; each argument reads behind the call as it read before'; 0 by the template 'total and deterministic' (their statements: YtogcclagmobkiaaTotals.lean).
  GIVEN WITH THE SEED: the statements are not yours to turn. If you find one false, say at which input.
  Laid BY PROGRAM, IN A SANDBOX (cutbox-rows.mjs): the forced cells as the released guide's own fill.sh prints them over the translation 627d12e0153d347e… (all of the seat's roots in one cut). By AI agents, Wed Nov 11 2026. No macro, syntax, notation, axiom, sorry.
-/
import Derived.Test.YtogcclagmobkiaaChecked
import GoSem.Claim
import GoSem.ClaimJoined
import GoSem.ClaimMapViews
import Derived.JoinedTies
import Derived.KernelRfl
namespace Go.Proofs.Ytogcclagmobkiaa
/- THE CELL 'sum', in the pinned program and in every row, IS THE sha256 OF THE DUMP (.gsa) THAT YtogcclagmobkiaaProg.lean LOADS. Nothing in Lean hashes anything: it is a label: what it is worth is what the hold of that sum in a sandbox is worth. -/
noncomputable def Try.pinned : Pinned := { name := "ytogcclagmobkiaa", sum := "627d12e0153d347eeebd79a23a1185d0a9da225bcf84040958e8f7ce2f7117ac", checked := Try.checked }
namespace Rows
def none {H : Type} : Left H := { results := [], args := [] }

/-- 'harrierlaw3.TrackAtMatchesSpec': WHATEVER THE INPUT: true; the input reads as it did. -/
def trackAtMatchesSpecSpec : ChangeSpec := { name := "trackAtMatchesSpec", fn := fun _ => fun
  | [d1, d2, d3] => { results := [.lit (.bool true)], args := [d1, d2, d3] }
  | _ => none }
def trackAtMatchesSpecRow : OpenClaim := { program := "ytogcclagmobkiaa", sum := "627d12e0153d347eeebd79a23a1185d0a9da225bcf84040958e8f7ce2f7117ac", func := "harrier/harrierlaw3.TrackAtMatchesSpec", spec := "trackAtMatchesSpec", unfollowed := true, recurses := true, named := ["math/bits.divideError", "math/bits.overflowError"], apart := false }
def TrackAtMatchesSpecSaid : Prop := trackAtMatchesSpecRow.holds Try.pinned (OpenSpec.ofChange trackAtMatchesSpecSpec)

/-- ITS FALSE NEIGHBOUR: 'it returns false'. Refute it at one input. -/
def trackAtMatchesSpecWrong : ChangeSpec := { name := "trackAtMatchesSpec", fn := fun _ => fun
  | [d1, d2, d3] => { results := [.lit (.bool false)], args := [d1, d2, d3] }
  | _ => none }
def TrackAtMatchesSpecWrongFalsely : Prop := trackAtMatchesSpecRow.holds Try.pinned (OpenSpec.ofChange trackAtMatchesSpecWrong)

/-- 'harrierlaw3.TrackFewerMatchSpec': WHATEVER THE INPUT: true; the input reads as it did. -/
def trackFewerMatchSpecSpec : ChangeSpec := { name := "trackFewerMatchSpec", fn := fun _ => fun
  | [d1, d2] => { results := [.lit (.bool true)], args := [d1, d2] }
  | _ => none }
def trackFewerMatchSpecRow : OpenClaim := { program := "ytogcclagmobkiaa", sum := "627d12e0153d347eeebd79a23a1185d0a9da225bcf84040958e8f7ce2f7117ac", func := "harrier/harrierlaw3.TrackFewerMatchSpec", spec := "trackFewerMatchSpec", unfollowed := true, recurses := true, named := ["math/bits.divideError", "math/bits.overflowError"], apart := false }
def TrackFewerMatchSpecSaid : Prop := trackFewerMatchSpecRow.holds Try.pinned (OpenSpec.ofChange trackFewerMatchSpecSpec)

/-- ITS FALSE NEIGHBOUR: 'it returns false'. Refute it at one input. -/
def trackFewerMatchSpecWrong : ChangeSpec := { name := "trackFewerMatchSpec", fn := fun _ => fun
  | [d1, d2] => { results := [.lit (.bool false)], args := [d1, d2] }
  | _ => none }
def TrackFewerMatchSpecWrongFalsely : Prop := trackFewerMatchSpecRow.holds Try.pinned (OpenSpec.ofChange trackFewerMatchSpecWrong)

/-- 'harrierlaw3.TrackCutMatchesSpec': WHATEVER THE INPUT: true; the input reads as it did. -/
def trackCutMatchesSpecSpec : ChangeSpec := { name := "trackCutMatchesSpec", fn := fun _ => fun
  | [d1, d2, d3] => { results := [.lit (.bool true)], args := [d1, d2, d3] }
  | _ => none }
def trackCutMatchesSpecRow : OpenClaim := { program := "ytogcclagmobkiaa", sum := "627d12e0153d347eeebd79a23a1185d0a9da225bcf84040958e8f7ce2f7117ac", func := "harrier/harrierlaw3.TrackCutMatchesSpec", spec := "trackCutMatchesSpec", unfollowed := true, recurses := true, named := ["math/bits.divideError", "math/bits.overflowError"], apart := false }
def TrackCutMatchesSpecSaid : Prop := trackCutMatchesSpecRow.holds Try.pinned (OpenSpec.ofChange trackCutMatchesSpecSpec)

/-- ITS FALSE NEIGHBOUR: 'it returns false'. Refute it at one input. -/
def trackCutMatchesSpecWrong : ChangeSpec := { name := "trackCutMatchesSpec", fn := fun _ => fun
  | [d1, d2, d3] => { results := [.lit (.bool false)], args := [d1, d2, d3] }
  | _ => none }
def TrackCutMatchesSpecWrongFalsely : Prop := trackCutMatchesSpecRow.holds Try.pinned (OpenSpec.ofChange trackCutMatchesSpecWrong)

/-- 'harrierlaw3.TrackFewerAreNear': WHATEVER THE INPUT: true; the input reads as it did. -/
def trackFewerAreNearSpec : ChangeSpec := { name := "trackFewerAreNear", fn := fun _ => fun
  | [d1, d2] => { results := [.lit (.bool true)], args := [d1, d2] }
  | _ => none }
def trackFewerAreNearRow : OpenClaim := { program := "ytogcclagmobkiaa", sum := "627d12e0153d347eeebd79a23a1185d0a9da225bcf84040958e8f7ce2f7117ac", func := "harrier/harrierlaw3.TrackFewerAreNear", spec := "trackFewerAreNear", unfollowed := true, recurses := true, named := ["math/bits.divideError", "math/bits.overflowError"], apart := false }
def TrackFewerAreNearSaid : Prop := trackFewerAreNearRow.holds Try.pinned (OpenSpec.ofChange trackFewerAreNearSpec)

/-- ITS FALSE NEIGHBOUR: 'it returns false'. Refute it at one input. -/
def trackFewerAreNearWrong : ChangeSpec := { name := "trackFewerAreNear", fn := fun _ => fun
  | [d1, d2] => { results := [.lit (.bool false)], args := [d1, d2] }
  | _ => none }
def TrackFewerAreNearWrongFalsely : Prop := trackFewerAreNearRow.holds Try.pinned (OpenSpec.ofChange trackFewerAreNearWrong)

/-- 'harrierlaw3.TrackJoinMatchesSpec': WHATEVER THE INPUT: true; the input reads as it did. -/
def trackJoinMatchesSpecSpec : ChangeSpec := { name := "trackJoinMatchesSpec", fn := fun _ => fun
  | [d1, d2] => { results := [.lit (.bool true)], args := [d1, d2] }
  | _ => none }
def trackJoinMatchesSpecRow : OpenClaim := { program := "ytogcclagmobkiaa", sum := "627d12e0153d347eeebd79a23a1185d0a9da225bcf84040958e8f7ce2f7117ac", func := "harrier/harrierlaw3.TrackJoinMatchesSpec", spec := "trackJoinMatchesSpec", unfollowed := true, recurses := true, apart := false }
def TrackJoinMatchesSpecSaid : Prop := trackJoinMatchesSpecRow.holds Try.pinned (OpenSpec.ofChange trackJoinMatchesSpecSpec)

/-- ITS FALSE NEIGHBOUR: 'it returns false'. Refute it at one input. -/
def trackJoinMatchesSpecWrong : ChangeSpec := { name := "trackJoinMatchesSpec", fn := fun _ => fun
  | [d1, d2] => { results := [.lit (.bool false)], args := [d1, d2] }
  | _ => none }
def TrackJoinMatchesSpecWrongFalsely : Prop := trackJoinMatchesSpecRow.holds Try.pinned (OpenSpec.ofChange trackJoinMatchesSpecWrong)

/-- 'harrierlaw3.TrackRestsMatchSpec': WHATEVER THE INPUT: true; the input reads as it did. -/
def trackRestsMatchSpecSpec : ChangeSpec := { name := "trackRestsMatchSpec", fn := fun _ => fun
  | [d1, d2, d3, d4] => { results := [.lit (.bool true)], args := [d1, d2, d3, d4] }
  | _ => none }
def trackRestsMatchSpecRow : OpenClaim := { program := "ytogcclagmobkiaa", sum := "627d12e0153d347eeebd79a23a1185d0a9da225bcf84040958e8f7ce2f7117ac", func := "harrier/harrierlaw3.TrackRestsMatchSpec", spec := "trackRestsMatchSpec", unfollowed := true, recurses := true, apart := false }
def TrackRestsMatchSpecSaid : Prop := trackRestsMatchSpecRow.holds Try.pinned (OpenSpec.ofChange trackRestsMatchSpecSpec)

/-- ITS FALSE NEIGHBOUR: 'it returns false'. Refute it at one input. -/
def trackRestsMatchSpecWrong : ChangeSpec := { name := "trackRestsMatchSpec", fn := fun _ => fun
  | [d1, d2, d3, d4] => { results := [.lit (.bool false)], args := [d1, d2, d3, d4] }
  | _ => none }
def TrackRestsMatchSpecWrongFalsely : Prop := trackRestsMatchSpecRow.holds Try.pinned (OpenSpec.ofChange trackRestsMatchSpecWrong)

/-- 'harrierlaw3.TrackMendsMatchSpec': WHATEVER THE INPUT: true; the input reads as it did. -/
def trackMendsMatchSpecSpec : ChangeSpec := { name := "trackMendsMatchSpec", fn := fun _ => fun
  | [d1, d2, d3] => { results := [.lit (.bool true)], args := [d1, d2, d3] }
  | _ => none }
def trackMendsMatchSpecRow : OpenClaim := { program := "ytogcclagmobkiaa", sum := "627d12e0153d347eeebd79a23a1185d0a9da225bcf84040958e8f7ce2f7117ac", func := "harrier/harrierlaw3.TrackMendsMatchSpec", spec := "trackMendsMatchSpec", unfollowed := true, recurses := true, named := ["math/bits.divideError", "math/bits.overflowError"], apart := false }
def TrackMendsMatchSpecSaid : Prop := trackMendsMatchSpecRow.holds Try.pinned (OpenSpec.ofChange trackMendsMatchSpecSpec)

/-- ITS FALSE NEIGHBOUR: 'it returns false'. Refute it at one input. -/
def trackMendsMatchSpecWrong : ChangeSpec := { name := "trackMendsMatchSpec", fn := fun _ => fun
  | [d1, d2, d3] => { results := [.lit (.bool false)], args := [d1, d2, d3] }
  | _ => none }
def TrackMendsMatchSpecWrongFalsely : Prop := trackMendsMatchSpecRow.holds Try.pinned (OpenSpec.ofChange trackMendsMatchSpecWrong)

/-- 'harrierlaw3.TrackMendsKeepWhatIsTrue': WHATEVER THE INPUT: true; the input reads as it did. -/
def trackMendsKeepWhatIsTrueSpec : ChangeSpec := { name := "trackMendsKeepWhatIsTrue", fn := fun _ => fun
  | [d1, d2, d3] => { results := [.lit (.bool true)], args := [d1, d2, d3] }
  | _ => none }
def trackMendsKeepWhatIsTrueRow : OpenClaim := { program := "ytogcclagmobkiaa", sum := "627d12e0153d347eeebd79a23a1185d0a9da225bcf84040958e8f7ce2f7117ac", func := "harrier/harrierlaw3.TrackMendsKeepWhatIsTrue", spec := "trackMendsKeepWhatIsTrue", unfollowed := true, recurses := true, named := ["math/bits.divideError", "math/bits.overflowError"], apart := false }
def TrackMendsKeepWhatIsTrueSaid : Prop := trackMendsKeepWhatIsTrueRow.holds Try.pinned (OpenSpec.ofChange trackMendsKeepWhatIsTrueSpec)

/-- ITS FALSE NEIGHBOUR: 'it returns false'. Refute it at one input. -/
def trackMendsKeepWhatIsTrueWrong : ChangeSpec := { name := "trackMendsKeepWhatIsTrue", fn := fun _ => fun
  | [d1, d2, d3] => { results := [.lit (.bool false)], args := [d1, d2, d3] }
  | _ => none }
def TrackMendsKeepWhatIsTrueWrongFalsely : Prop := trackMendsKeepWhatIsTrueRow.holds Try.pinned (OpenSpec.ofChange trackMendsKeepWhatIsTrueWrong)

/- THE SECOND FORM. 'bulk': how many values and letters a reading holds, each counted each time it is reached (what is shared counts as often as it is met; a slice's spare places count too). A statement '..UptoSaid' is the law's where the arguments, and the package variables that the reading takes, are together of bulk at most 1048576: NARROWER than '..Said'. Prove '..Said' where nothing that the law and all that it calls make is longer than what came in: it says more and counts as full. Else prove '..UptoSaid'. A law counts once. -/
mutual
def uptoBulk {H : Type} : DataW H → Nat
  | .lit (.string bytes) => bytes.length + 1
  | .lit _ => 1
  | .nil => 1
  | .ptr d => uptoBulk d + 1
  | .slice elems spare => uptoBulkAll elems + uptoBulkAll spare + 1
  | .agg parts => uptoBulkAll parts + 1
  | .iface _ d => uptoBulk d + 1
  | .map entries => uptoBulkEntries entries + 1
  | .held _ => 1
def uptoBulkAll {H : Type} : List (DataW H) → Nat
  | [] => 0
  | d :: r => uptoBulk d + uptoBulkAll r
def uptoBulkEntries {H : Type} : List (Lit × DataW H) → Nat
  | [] => 0
  | x :: r => uptoBulkEntry x + uptoBulkEntries r
def uptoBulkEntry {H : Type} : Lit × DataW H → Nat
  | (.string bytes, d) => bytes.length + uptoBulk d + 1
  | (_, d) => uptoBulk d + 1
 end
def uptoSmall : (H : Type) → List (DataW H) → Bool := fun _ ds => decide (uptoBulkAll ds ≤ 1048576)
def OpenSpec.upto (s : _root_.Go.ChangeSpec) : _root_.Go.OpenSpec := { _root_.Go.OpenSpec.ofChange s with cond := some uptoSmall }

/-- 'harrierlaw3.TrackAtMatchesSpec', WHERE WHAT IT READS IS OF BULK AT MOST 1048576: true; the input reads as it did. -/
def trackAtMatchesSpecUptoRow : OpenClaim := { program := "ytogcclagmobkiaa", sum := "627d12e0153d347eeebd79a23a1185d0a9da225bcf84040958e8f7ce2f7117ac", func := "harrier/harrierlaw3.TrackAtMatchesSpec", spec := "trackAtMatchesSpec", unfollowed := true, recurses := true, named := ["math/bits.divideError", "math/bits.overflowError"], apart := false, narrowed := true }
def TrackAtMatchesSpecUptoSaid : Prop := trackAtMatchesSpecUptoRow.holds Try.pinned (OpenSpec.upto trackAtMatchesSpecSpec)

/-- 'harrierlaw3.TrackFewerMatchSpec', WHERE WHAT IT READS IS OF BULK AT MOST 1048576: true; the input reads as it did. -/
def trackFewerMatchSpecUptoRow : OpenClaim := { program := "ytogcclagmobkiaa", sum := "627d12e0153d347eeebd79a23a1185d0a9da225bcf84040958e8f7ce2f7117ac", func := "harrier/harrierlaw3.TrackFewerMatchSpec", spec := "trackFewerMatchSpec", unfollowed := true, recurses := true, named := ["math/bits.divideError", "math/bits.overflowError"], apart := false, narrowed := true }
def TrackFewerMatchSpecUptoSaid : Prop := trackFewerMatchSpecUptoRow.holds Try.pinned (OpenSpec.upto trackFewerMatchSpecSpec)

/-- 'harrierlaw3.TrackCutMatchesSpec', WHERE WHAT IT READS IS OF BULK AT MOST 1048576: true; the input reads as it did. -/
def trackCutMatchesSpecUptoRow : OpenClaim := { program := "ytogcclagmobkiaa", sum := "627d12e0153d347eeebd79a23a1185d0a9da225bcf84040958e8f7ce2f7117ac", func := "harrier/harrierlaw3.TrackCutMatchesSpec", spec := "trackCutMatchesSpec", unfollowed := true, recurses := true, named := ["math/bits.divideError", "math/bits.overflowError"], apart := false, narrowed := true }
def TrackCutMatchesSpecUptoSaid : Prop := trackCutMatchesSpecUptoRow.holds Try.pinned (OpenSpec.upto trackCutMatchesSpecSpec)

/-- 'harrierlaw3.TrackFewerAreNear', WHERE WHAT IT READS IS OF BULK AT MOST 1048576: true; the input reads as it did. -/
def trackFewerAreNearUptoRow : OpenClaim := { program := "ytogcclagmobkiaa", sum := "627d12e0153d347eeebd79a23a1185d0a9da225bcf84040958e8f7ce2f7117ac", func := "harrier/harrierlaw3.TrackFewerAreNear", spec := "trackFewerAreNear", unfollowed := true, recurses := true, named := ["math/bits.divideError", "math/bits.overflowError"], apart := false, narrowed := true }
def TrackFewerAreNearUptoSaid : Prop := trackFewerAreNearUptoRow.holds Try.pinned (OpenSpec.upto trackFewerAreNearSpec)

/-- 'harrierlaw3.TrackJoinMatchesSpec', WHERE WHAT IT READS IS OF BULK AT MOST 1048576: true; the input reads as it did. -/
def trackJoinMatchesSpecUptoRow : OpenClaim := { program := "ytogcclagmobkiaa", sum := "627d12e0153d347eeebd79a23a1185d0a9da225bcf84040958e8f7ce2f7117ac", func := "harrier/harrierlaw3.TrackJoinMatchesSpec", spec := "trackJoinMatchesSpec", unfollowed := true, recurses := true, apart := false, narrowed := true }
def TrackJoinMatchesSpecUptoSaid : Prop := trackJoinMatchesSpecUptoRow.holds Try.pinned (OpenSpec.upto trackJoinMatchesSpecSpec)

/-- 'harrierlaw3.TrackRestsMatchSpec', WHERE WHAT IT READS IS OF BULK AT MOST 1048576: true; the input reads as it did. -/
def trackRestsMatchSpecUptoRow : OpenClaim := { program := "ytogcclagmobkiaa", sum := "627d12e0153d347eeebd79a23a1185d0a9da225bcf84040958e8f7ce2f7117ac", func := "harrier/harrierlaw3.TrackRestsMatchSpec", spec := "trackRestsMatchSpec", unfollowed := true, recurses := true, apart := false, narrowed := true }
def TrackRestsMatchSpecUptoSaid : Prop := trackRestsMatchSpecUptoRow.holds Try.pinned (OpenSpec.upto trackRestsMatchSpecSpec)

/-- 'harrierlaw3.TrackMendsMatchSpec', WHERE WHAT IT READS IS OF BULK AT MOST 1048576: true; the input reads as it did. -/
def trackMendsMatchSpecUptoRow : OpenClaim := { program := "ytogcclagmobkiaa", sum := "627d12e0153d347eeebd79a23a1185d0a9da225bcf84040958e8f7ce2f7117ac", func := "harrier/harrierlaw3.TrackMendsMatchSpec", spec := "trackMendsMatchSpec", unfollowed := true, recurses := true, named := ["math/bits.divideError", "math/bits.overflowError"], apart := false, narrowed := true }
def TrackMendsMatchSpecUptoSaid : Prop := trackMendsMatchSpecUptoRow.holds Try.pinned (OpenSpec.upto trackMendsMatchSpecSpec)

/-- 'harrierlaw3.TrackMendsKeepWhatIsTrue', WHERE WHAT IT READS IS OF BULK AT MOST 1048576: true; the input reads as it did. -/
def trackMendsKeepWhatIsTrueUptoRow : OpenClaim := { program := "ytogcclagmobkiaa", sum := "627d12e0153d347eeebd79a23a1185d0a9da225bcf84040958e8f7ce2f7117ac", func := "harrier/harrierlaw3.TrackMendsKeepWhatIsTrue", spec := "trackMendsKeepWhatIsTrue", unfollowed := true, recurses := true, named := ["math/bits.divideError", "math/bits.overflowError"], apart := false, narrowed := true }
def TrackMendsKeepWhatIsTrueUptoSaid : Prop := trackMendsKeepWhatIsTrueUptoRow.holds Try.pinned (OpenSpec.upto trackMendsKeepWhatIsTrueSpec)

end Rows
end Go.Proofs.Ytogcclagmobkiaa
