/-
  No cell of these rows narrows 'for every input' (looked for: loops, veiled, ifaces, maps, wideKeys, modest, calm, conditions, laid).
  DERIVED. THE GIVEN ROWS OF THIS SEAT. 9 by the template 'for every input the law returns true; each argument reads behind the call as it read before'; 0 by the template 'total and deterministic' (their statements: YtlbcefnbjdpljaaTotals.lean).
  GIVEN WITH THE SEED: the statements are not yours to turn. If you find one false, say at which input.
  Laid BY PROGRAM, IN A SANDBOX (cutbox-rows.mjs): the forced cells as the released guide's own fill.sh prints them over the translation 59b0aefa952ca7eb… (all of the seat's roots in one cut). By AI agents, Wed Nov 11 2026. No macro, syntax, notation, axiom, sorry.
-/
import Derived.Test.YtlbcefnbjdpljaaChecked
import GoSem.Claim
import GoSem.ClaimJoined
import GoSem.ClaimMapViews
import Derived.JoinedTies
import Derived.KernelRfl
namespace Go.Proofs.Ytlbcefnbjdpljaa
/- THE CELL 'sum', in the pinned program and in every row, IS THE sha256 OF THE DUMP (.gsa) THAT YtlbcefnbjdpljaaProg.lean LOADS. Nothing in Lean hashes anything: it is a label: what it is worth is what the hold of that sum in a sandbox is worth. -/
noncomputable def Try.pinned : Pinned := { name := "ytlbcefnbjdpljaa", sum := "59b0aefa952ca7ebdb372bdc2040e628661f0e265e789bec34a4156b2e34c410", checked := Try.checked }
namespace Rows
def none {H : Type} : Left H := { results := [], args := [] }

/-- 'harrierlaw3.TrackClimbMatchesSpec': WHATEVER THE INPUT: true; the input reads as it did. -/
def trackClimbMatchesSpecSpec : ChangeSpec := { name := "trackClimbMatchesSpec", fn := fun _ => fun
  | [d1, d2] => { results := [.lit (.bool true)], args := [d1, d2] }
  | _ => none }
def trackClimbMatchesSpecRow : OpenClaim := { program := "ytlbcefnbjdpljaa", sum := "59b0aefa952ca7ebdb372bdc2040e628661f0e265e789bec34a4156b2e34c410", func := "harrier/harrierlaw3.TrackClimbMatchesSpec", spec := "trackClimbMatchesSpec", unfollowed := true, recurses := true, apart := false }
def TrackClimbMatchesSpecSaid : Prop := trackClimbMatchesSpecRow.holds Try.pinned (OpenSpec.ofChange trackClimbMatchesSpecSpec)

/-- ITS FALSE NEIGHBOUR: 'it returns false'. Refute it at one input. -/
def trackClimbMatchesSpecWrong : ChangeSpec := { name := "trackClimbMatchesSpec", fn := fun _ => fun
  | [d1, d2] => { results := [.lit (.bool false)], args := [d1, d2] }
  | _ => none }
def TrackClimbMatchesSpecWrongFalsely : Prop := trackClimbMatchesSpecRow.holds Try.pinned (OpenSpec.ofChange trackClimbMatchesSpecWrong)

/-- 'harrierlaw3.TrackClimbsAreLess': WHATEVER THE INPUT: true; the input reads as it did. -/
def trackClimbsAreLessSpec : ChangeSpec := { name := "trackClimbsAreLess", fn := fun _ => fun
  | [d1, d2, d3, d4] => { results := [.lit (.bool true)], args := [d1, d2, d3, d4] }
  | _ => none }
def trackClimbsAreLessRow : OpenClaim := { program := "ytlbcefnbjdpljaa", sum := "59b0aefa952ca7ebdb372bdc2040e628661f0e265e789bec34a4156b2e34c410", func := "harrier/harrierlaw3.TrackClimbsAreLess", spec := "trackClimbsAreLess", unfollowed := true, recurses := true, apart := false }
def TrackClimbsAreLessSaid : Prop := trackClimbsAreLessRow.holds Try.pinned (OpenSpec.ofChange trackClimbsAreLessSpec)

/-- ITS FALSE NEIGHBOUR: 'it returns false'. Refute it at one input. -/
def trackClimbsAreLessWrong : ChangeSpec := { name := "trackClimbsAreLess", fn := fun _ => fun
  | [d1, d2, d3, d4] => { results := [.lit (.bool false)], args := [d1, d2, d3, d4] }
  | _ => none }
def TrackClimbsAreLessWrongFalsely : Prop := trackClimbsAreLessRow.holds Try.pinned (OpenSpec.ofChange trackClimbsAreLessWrong)

/-- 'harrierlaw3.TrackWaysMatchSpec': WHATEVER THE INPUT: true; the input reads as it did. -/
def trackWaysMatchSpecSpec : ChangeSpec := { name := "trackWaysMatchSpec", fn := fun _ => fun
  | [d1, d2, d3] => { results := [.lit (.bool true)], args := [d1, d2, d3] }
  | _ => none }
def trackWaysMatchSpecRow : OpenClaim := { program := "ytlbcefnbjdpljaa", sum := "59b0aefa952ca7ebdb372bdc2040e628661f0e265e789bec34a4156b2e34c410", func := "harrier/harrierlaw3.TrackWaysMatchSpec", spec := "trackWaysMatchSpec", unfollowed := true, recurses := true, apart := false }
def TrackWaysMatchSpecSaid : Prop := trackWaysMatchSpecRow.holds Try.pinned (OpenSpec.ofChange trackWaysMatchSpecSpec)

/-- ITS FALSE NEIGHBOUR: 'it returns false'. Refute it at one input. -/
def trackWaysMatchSpecWrong : ChangeSpec := { name := "trackWaysMatchSpec", fn := fun _ => fun
  | [d1, d2, d3] => { results := [.lit (.bool false)], args := [d1, d2, d3] }
  | _ => none }
def TrackWaysMatchSpecWrongFalsely : Prop := trackWaysMatchSpecRow.holds Try.pinned (OpenSpec.ofChange trackWaysMatchSpecWrong)

/-- 'harrierlaw3.TrackHillsMatchSpec': WHATEVER THE INPUT: true; the input reads as it did. -/
def trackHillsMatchSpecSpec : ChangeSpec := { name := "trackHillsMatchSpec", fn := fun _ => fun
  | [d1, d2, d3] => { results := [.lit (.bool true)], args := [d1, d2, d3] }
  | _ => none }
def trackHillsMatchSpecRow : OpenClaim := { program := "ytlbcefnbjdpljaa", sum := "59b0aefa952ca7ebdb372bdc2040e628661f0e265e789bec34a4156b2e34c410", func := "harrier/harrierlaw3.TrackHillsMatchSpec", spec := "trackHillsMatchSpec", unfollowed := true, recurses := true, apart := false }
def TrackHillsMatchSpecSaid : Prop := trackHillsMatchSpecRow.holds Try.pinned (OpenSpec.ofChange trackHillsMatchSpecSpec)

/-- ITS FALSE NEIGHBOUR: 'it returns false'. Refute it at one input. -/
def trackHillsMatchSpecWrong : ChangeSpec := { name := "trackHillsMatchSpec", fn := fun _ => fun
  | [d1, d2, d3] => { results := [.lit (.bool false)], args := [d1, d2, d3] }
  | _ => none }
def TrackHillsMatchSpecWrongFalsely : Prop := trackHillsMatchSpecRow.holds Try.pinned (OpenSpec.ofChange trackHillsMatchSpecWrong)

/-- 'harrierlaw3.TrackHillsAreHills': WHATEVER THE INPUT: true; the input reads as it did. -/
def trackHillsAreHillsSpec : ChangeSpec := { name := "trackHillsAreHills", fn := fun _ => fun
  | [d1, d2, d3, d4, d5] => { results := [.lit (.bool true)], args := [d1, d2, d3, d4, d5] }
  | _ => none }
def trackHillsAreHillsRow : OpenClaim := { program := "ytlbcefnbjdpljaa", sum := "59b0aefa952ca7ebdb372bdc2040e628661f0e265e789bec34a4156b2e34c410", func := "harrier/harrierlaw3.TrackHillsAreHills", spec := "trackHillsAreHills", unfollowed := true, recurses := true, apart := false }
def TrackHillsAreHillsSaid : Prop := trackHillsAreHillsRow.holds Try.pinned (OpenSpec.ofChange trackHillsAreHillsSpec)

/-- ITS FALSE NEIGHBOUR: 'it returns false'. Refute it at one input. -/
def trackHillsAreHillsWrong : ChangeSpec := { name := "trackHillsAreHills", fn := fun _ => fun
  | [d1, d2, d3, d4, d5] => { results := [.lit (.bool false)], args := [d1, d2, d3, d4, d5] }
  | _ => none }
def TrackHillsAreHillsWrongFalsely : Prop := trackHillsAreHillsRow.holds Try.pinned (OpenSpec.ofChange trackHillsAreHillsWrong)

/-- 'harrierlaw3.TrackKeepMatchesSpec': WHATEVER THE INPUT: true; the input reads as it did. -/
def trackKeepMatchesSpecSpec : ChangeSpec := { name := "trackKeepMatchesSpec", fn := fun _ => fun
  | [d1, d2] => { results := [.lit (.bool true)], args := [d1, d2] }
  | _ => none }
def trackKeepMatchesSpecRow : OpenClaim := { program := "ytlbcefnbjdpljaa", sum := "59b0aefa952ca7ebdb372bdc2040e628661f0e265e789bec34a4156b2e34c410", func := "harrier/harrierlaw3.TrackKeepMatchesSpec", spec := "trackKeepMatchesSpec", unfollowed := true, recurses := true, apart := false }
def TrackKeepMatchesSpecSaid : Prop := trackKeepMatchesSpecRow.holds Try.pinned (OpenSpec.ofChange trackKeepMatchesSpecSpec)

/-- ITS FALSE NEIGHBOUR: 'it returns false'. Refute it at one input. -/
def trackKeepMatchesSpecWrong : ChangeSpec := { name := "trackKeepMatchesSpec", fn := fun _ => fun
  | [d1, d2] => { results := [.lit (.bool false)], args := [d1, d2] }
  | _ => none }
def TrackKeepMatchesSpecWrongFalsely : Prop := trackKeepMatchesSpecRow.holds Try.pinned (OpenSpec.ofChange trackKeepMatchesSpecWrong)

/-- 'harrierlaw3.TrackOnlyMatchesSpec': WHATEVER THE INPUT: true; the input reads as it did. -/
def trackOnlyMatchesSpecSpec : ChangeSpec := { name := "trackOnlyMatchesSpec", fn := fun _ => fun
  | [d1, d2] => { results := [.lit (.bool true)], args := [d1, d2] }
  | _ => none }
def trackOnlyMatchesSpecRow : OpenClaim := { program := "ytlbcefnbjdpljaa", sum := "59b0aefa952ca7ebdb372bdc2040e628661f0e265e789bec34a4156b2e34c410", func := "harrier/harrierlaw3.TrackOnlyMatchesSpec", spec := "trackOnlyMatchesSpec", unfollowed := true, recurses := true, apart := false }
def TrackOnlyMatchesSpecSaid : Prop := trackOnlyMatchesSpecRow.holds Try.pinned (OpenSpec.ofChange trackOnlyMatchesSpecSpec)

/-- ITS FALSE NEIGHBOUR: 'it returns false'. Refute it at one input. -/
def trackOnlyMatchesSpecWrong : ChangeSpec := { name := "trackOnlyMatchesSpec", fn := fun _ => fun
  | [d1, d2] => { results := [.lit (.bool false)], args := [d1, d2] }
  | _ => none }
def TrackOnlyMatchesSpecWrongFalsely : Prop := trackOnlyMatchesSpecRow.holds Try.pinned (OpenSpec.ofChange trackOnlyMatchesSpecWrong)

/-- 'harrierlaw3.TrackSplitsMatchSpec': WHATEVER THE INPUT: true; the input reads as it did. -/
def trackSplitsMatchSpecSpec : ChangeSpec := { name := "trackSplitsMatchSpec", fn := fun _ => fun
  | [d1, d2] => { results := [.lit (.bool true)], args := [d1, d2] }
  | _ => none }
def trackSplitsMatchSpecRow : OpenClaim := { program := "ytlbcefnbjdpljaa", sum := "59b0aefa952ca7ebdb372bdc2040e628661f0e265e789bec34a4156b2e34c410", func := "harrier/harrierlaw3.TrackSplitsMatchSpec", spec := "trackSplitsMatchSpec", unfollowed := true, recurses := true, named := ["math/bits.divideError", "math/bits.overflowError"], apart := false }
def TrackSplitsMatchSpecSaid : Prop := trackSplitsMatchSpecRow.holds Try.pinned (OpenSpec.ofChange trackSplitsMatchSpecSpec)

/-- ITS FALSE NEIGHBOUR: 'it returns false'. Refute it at one input. -/
def trackSplitsMatchSpecWrong : ChangeSpec := { name := "trackSplitsMatchSpec", fn := fun _ => fun
  | [d1, d2] => { results := [.lit (.bool false)], args := [d1, d2] }
  | _ => none }
def TrackSplitsMatchSpecWrongFalsely : Prop := trackSplitsMatchSpecRow.holds Try.pinned (OpenSpec.ofChange trackSplitsMatchSpecWrong)

/-- 'harrierlaw3.TrackSplitsRise': WHATEVER THE INPUT: true; the input reads as it did. -/
def trackSplitsRiseSpec : ChangeSpec := { name := "trackSplitsRise", fn := fun _ => fun
  | [d1, d2] => { results := [.lit (.bool true)], args := [d1, d2] }
  | _ => none }
def trackSplitsRiseRow : OpenClaim := { program := "ytlbcefnbjdpljaa", sum := "59b0aefa952ca7ebdb372bdc2040e628661f0e265e789bec34a4156b2e34c410", func := "harrier/harrierlaw3.TrackSplitsRise", spec := "trackSplitsRise", unfollowed := true, recurses := true, named := ["math/bits.divideError", "math/bits.overflowError"], apart := false }
def TrackSplitsRiseSaid : Prop := trackSplitsRiseRow.holds Try.pinned (OpenSpec.ofChange trackSplitsRiseSpec)

/-- ITS FALSE NEIGHBOUR: 'it returns false'. Refute it at one input. -/
def trackSplitsRiseWrong : ChangeSpec := { name := "trackSplitsRise", fn := fun _ => fun
  | [d1, d2] => { results := [.lit (.bool false)], args := [d1, d2] }
  | _ => none }
def TrackSplitsRiseWrongFalsely : Prop := trackSplitsRiseRow.holds Try.pinned (OpenSpec.ofChange trackSplitsRiseWrong)

/- THE SECOND FORM. 'bulk': how many values and letters a reading holds, each counted each time it is reached (what is shared counts as often as it is met; a slice's spare places count too). A statement '..UptoSaid' is the law's where the arguments, and the package variables that the reading takes, are together of bulk at most 1048576: NARROWER than '..Said'. Prove '..Said' where nothing that the law and all that it calls make is longer than what came in: it says more and counts as full. Else prove '..UptoSaid'. A law counts once. -/
mutual
def uptoBulk {H : Type} : DataW H → Nat
  | .lit (.string bytes) => bytes.length + 1
  | .lit _ => 1
  | .nil => 1
  | .ptr d => uptoBulk d + 1
  | .slice elems spare => uptoBulkAll elems + uptoBulkAll spare + 1
  | .agg parts => uptoBulkAll parts + 1
  | .iface _ d => uptoBulk d + 1
  | .map entries => uptoBulkEntries entries + 1
  | .held _ => 1
def uptoBulkAll {H : Type} : List (DataW H) → Nat
  | [] => 0
  | d :: r => uptoBulk d + uptoBulkAll r
def uptoBulkEntries {H : Type} : List (Lit × DataW H) → Nat
  | [] => 0
  | x :: r => uptoBulkEntry x + uptoBulkEntries r
def uptoBulkEntry {H : Type} : Lit × DataW H → Nat
  | (.string bytes, d) => bytes.length + uptoBulk d + 1
  | (_, d) => uptoBulk d + 1
 end
def uptoSmall : (H : Type) → List (DataW H) → Bool := fun _ ds => decide (uptoBulkAll ds ≤ 1048576)
def OpenSpec.upto (s : _root_.Go.ChangeSpec) : _root_.Go.OpenSpec := { _root_.Go.OpenSpec.ofChange s with cond := some uptoSmall }

/-- 'harrierlaw3.TrackClimbMatchesSpec', WHERE WHAT IT READS IS OF BULK AT MOST 1048576: true; the input reads as it did. -/
def trackClimbMatchesSpecUptoRow : OpenClaim := { program := "ytlbcefnbjdpljaa", sum := "59b0aefa952ca7ebdb372bdc2040e628661f0e265e789bec34a4156b2e34c410", func := "harrier/harrierlaw3.TrackClimbMatchesSpec", spec := "trackClimbMatchesSpec", unfollowed := true, recurses := true, apart := false, narrowed := true }
def TrackClimbMatchesSpecUptoSaid : Prop := trackClimbMatchesSpecUptoRow.holds Try.pinned (OpenSpec.upto trackClimbMatchesSpecSpec)

/-- 'harrierlaw3.TrackClimbsAreLess', WHERE WHAT IT READS IS OF BULK AT MOST 1048576: true; the input reads as it did. -/
def trackClimbsAreLessUptoRow : OpenClaim := { program := "ytlbcefnbjdpljaa", sum := "59b0aefa952ca7ebdb372bdc2040e628661f0e265e789bec34a4156b2e34c410", func := "harrier/harrierlaw3.TrackClimbsAreLess", spec := "trackClimbsAreLess", unfollowed := true, recurses := true, apart := false, narrowed := true }
def TrackClimbsAreLessUptoSaid : Prop := trackClimbsAreLessUptoRow.holds Try.pinned (OpenSpec.upto trackClimbsAreLessSpec)

/-- 'harrierlaw3.TrackWaysMatchSpec', WHERE WHAT IT READS IS OF BULK AT MOST 1048576: true; the input reads as it did. -/
def trackWaysMatchSpecUptoRow : OpenClaim := { program := "ytlbcefnbjdpljaa", sum := "59b0aefa952ca7ebdb372bdc2040e628661f0e265e789bec34a4156b2e34c410", func := "harrier/harrierlaw3.TrackWaysMatchSpec", spec := "trackWaysMatchSpec", unfollowed := true, recurses := true, apart := false, narrowed := true }
def TrackWaysMatchSpecUptoSaid : Prop := trackWaysMatchSpecUptoRow.holds Try.pinned (OpenSpec.upto trackWaysMatchSpecSpec)

/-- 'harrierlaw3.TrackHillsMatchSpec', WHERE WHAT IT READS IS OF BULK AT MOST 1048576: true; the input reads as it did. -/
def trackHillsMatchSpecUptoRow : OpenClaim := { program := "ytlbcefnbjdpljaa", sum := "59b0aefa952ca7ebdb372bdc2040e628661f0e265e789bec34a4156b2e34c410", func := "harrier/harrierlaw3.TrackHillsMatchSpec", spec := "trackHillsMatchSpec", unfollowed := true, recurses := true, apart := false, narrowed := true }
def TrackHillsMatchSpecUptoSaid : Prop := trackHillsMatchSpecUptoRow.holds Try.pinned (OpenSpec.upto trackHillsMatchSpecSpec)

/-- 'harrierlaw3.TrackHillsAreHills', WHERE WHAT IT READS IS OF BULK AT MOST 1048576: true; the input reads as it did. -/
def trackHillsAreHillsUptoRow : OpenClaim := { program := "ytlbcefnbjdpljaa", sum := "59b0aefa952ca7ebdb372bdc2040e628661f0e265e789bec34a4156b2e34c410", func := "harrier/harrierlaw3.TrackHillsAreHills", spec := "trackHillsAreHills", unfollowed := true, recurses := true, apart := false, narrowed := true }
def TrackHillsAreHillsUptoSaid : Prop := trackHillsAreHillsUptoRow.holds Try.pinned (OpenSpec.upto trackHillsAreHillsSpec)

/-- 'harrierlaw3.TrackKeepMatchesSpec', WHERE WHAT IT READS IS OF BULK AT MOST 1048576: true; the input reads as it did. -/
def trackKeepMatchesSpecUptoRow : OpenClaim := { program := "ytlbcefnbjdpljaa", sum := "59b0aefa952ca7ebdb372bdc2040e628661f0e265e789bec34a4156b2e34c410", func := "harrier/harrierlaw3.TrackKeepMatchesSpec", spec := "trackKeepMatchesSpec", unfollowed := true, recurses := true, apart := false, narrowed := true }
def TrackKeepMatchesSpecUptoSaid : Prop := trackKeepMatchesSpecUptoRow.holds Try.pinned (OpenSpec.upto trackKeepMatchesSpecSpec)

/-- 'harrierlaw3.TrackOnlyMatchesSpec', WHERE WHAT IT READS IS OF BULK AT MOST 1048576: true; the input reads as it did. -/
def trackOnlyMatchesSpecUptoRow : OpenClaim := { program := "ytlbcefnbjdpljaa", sum := "59b0aefa952ca7ebdb372bdc2040e628661f0e265e789bec34a4156b2e34c410", func := "harrier/harrierlaw3.TrackOnlyMatchesSpec", spec := "trackOnlyMatchesSpec", unfollowed := true, recurses := true, apart := false, narrowed := true }
def TrackOnlyMatchesSpecUptoSaid : Prop := trackOnlyMatchesSpecUptoRow.holds Try.pinned (OpenSpec.upto trackOnlyMatchesSpecSpec)

/-- 'harrierlaw3.TrackSplitsMatchSpec', WHERE WHAT IT READS IS OF BULK AT MOST 1048576: true; the input reads as it did. -/
def trackSplitsMatchSpecUptoRow : OpenClaim := { program := "ytlbcefnbjdpljaa", sum := "59b0aefa952ca7ebdb372bdc2040e628661f0e265e789bec34a4156b2e34c410", func := "harrier/harrierlaw3.TrackSplitsMatchSpec", spec := "trackSplitsMatchSpec", unfollowed := true, recurses := true, named := ["math/bits.divideError", "math/bits.overflowError"], apart := false, narrowed := true }
def TrackSplitsMatchSpecUptoSaid : Prop := trackSplitsMatchSpecUptoRow.holds Try.pinned (OpenSpec.upto trackSplitsMatchSpecSpec)

/-- 'harrierlaw3.TrackSplitsRise', WHERE WHAT IT READS IS OF BULK AT MOST 1048576: true; the input reads as it did. -/
def trackSplitsRiseUptoRow : OpenClaim := { program := "ytlbcefnbjdpljaa", sum := "59b0aefa952ca7ebdb372bdc2040e628661f0e265e789bec34a4156b2e34c410", func := "harrier/harrierlaw3.TrackSplitsRise", spec := "trackSplitsRise", unfollowed := true, recurses := true, named := ["math/bits.divideError", "math/bits.overflowError"], apart := false, narrowed := true }
def TrackSplitsRiseUptoSaid : Prop := trackSplitsRiseUptoRow.holds Try.pinned (OpenSpec.upto trackSplitsRiseSpec)

end Rows
end Go.Proofs.Ytlbcefnbjdpljaa
