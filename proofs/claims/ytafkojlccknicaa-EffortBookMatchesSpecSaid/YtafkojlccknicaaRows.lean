/-
  No cell of these rows narrows 'for every input' (looked for: loops, veiled, ifaces, maps, wideKeys, modest, calm, conditions, laid).
  DERIVED. THE GIVEN ROWS OF THIS SEAT. 11 by the template 'for every input the law returns true; each argument reads behind the call as it read before'; 0 by the template 'total and deterministic' (their statements: YtafkojlccknicaaTotals.lean).
  GIVEN WITH THE SEED: the statements are not yours to turn. If you find one false, say at which input.
  Laid BY PROGRAM, IN A SANDBOX (cutbox-rows.mjs): the forced cells as the released guide's own fill.sh prints them over the translation d1bc1d62d594faf4… (all of the seat's roots in one cut). By AI agents, Wed Nov 11 2026. No macro, syntax, notation, axiom, sorry.
-/
import Derived.Test.YtafkojlccknicaaChecked
import GoSem.Claim
import GoSem.ClaimJoined
import GoSem.ClaimMapViews
import Derived.JoinedTies
import Derived.KernelRfl
namespace Go.Proofs.Ytafkojlccknicaa
/- THE CELL 'sum', in the pinned program and in every row, IS THE sha256 OF THE DUMP (.gsa) THAT YtafkojlccknicaaProg.lean LOADS. Nothing in Lean hashes anything: it is a label: what it is worth is what the hold of that sum in a sandbox is worth. -/
noncomputable def Try.pinned : Pinned := { name := "ytafkojlccknicaa", sum := "d1bc1d62d594faf4121ae621f3c3c0414dbad856bedcb7539037fb76ccac57b5", checked := Try.checked }
namespace Rows
def none {H : Type} : Left H := { results := [], args := [] }

/-- 'harrierlaw4.EffortBestIsBest': WHATEVER THE INPUT: true; the input reads as it did. -/
def effortBestIsBestSpec : ChangeSpec := { name := "effortBestIsBest", fn := fun _ => fun
  | [d1, d2, d3] => { results := [.lit (.bool true)], args := [d1, d2, d3] }
  | _ => none }
def effortBestIsBestRow : OpenClaim := { program := "ytafkojlccknicaa", sum := "d1bc1d62d594faf4121ae621f3c3c0414dbad856bedcb7539037fb76ccac57b5", func := "harrier/harrierlaw4.EffortBestIsBest", spec := "effortBestIsBest", unfollowed := true, recurses := true, apart := false }
def EffortBestIsBestSaid : Prop := effortBestIsBestRow.holds Try.pinned (OpenSpec.ofChange effortBestIsBestSpec)

/-- ITS FALSE NEIGHBOUR: 'it returns false'. Refute it at one input. -/
def effortBestIsBestWrong : ChangeSpec := { name := "effortBestIsBest", fn := fun _ => fun
  | [d1, d2, d3] => { results := [.lit (.bool false)], args := [d1, d2, d3] }
  | _ => none }
def EffortBestIsBestWrongFalsely : Prop := effortBestIsBestRow.holds Try.pinned (OpenSpec.ofChange effortBestIsBestWrong)

/-- 'harrierlaw4.EffortBestMatchesSpec': WHATEVER THE INPUT: true; the input reads as it did. -/
def effortBestMatchesSpecSpec : ChangeSpec := { name := "effortBestMatchesSpec", fn := fun _ => fun
  | [d1, d2, d3] => { results := [.lit (.bool true)], args := [d1, d2, d3] }
  | _ => none }
def effortBestMatchesSpecRow : OpenClaim := { program := "ytafkojlccknicaa", sum := "d1bc1d62d594faf4121ae621f3c3c0414dbad856bedcb7539037fb76ccac57b5", func := "harrier/harrierlaw4.EffortBestMatchesSpec", spec := "effortBestMatchesSpec", unfollowed := true, recurses := true, apart := false }
def EffortBestMatchesSpecSaid : Prop := effortBestMatchesSpecRow.holds Try.pinned (OpenSpec.ofChange effortBestMatchesSpecSpec)

/-- ITS FALSE NEIGHBOUR: 'it returns false'. Refute it at one input. -/
def effortBestMatchesSpecWrong : ChangeSpec := { name := "effortBestMatchesSpec", fn := fun _ => fun
  | [d1, d2, d3] => { results := [.lit (.bool false)], args := [d1, d2, d3] }
  | _ => none }
def EffortBestMatchesSpecWrongFalsely : Prop := effortBestMatchesSpecRow.holds Try.pinned (OpenSpec.ofChange effortBestMatchesSpecWrong)

/-- 'harrierlaw4.EffortZonesMatchSpec': WHATEVER THE INPUT: true; the input reads as it did. -/
def effortZonesMatchSpecSpec : ChangeSpec := { name := "effortZonesMatchSpec", fn := fun _ => fun
  | [d1, d2] => { results := [.lit (.bool true)], args := [d1, d2] }
  | _ => none }
def effortZonesMatchSpecRow : OpenClaim := { program := "ytafkojlccknicaa", sum := "d1bc1d62d594faf4121ae621f3c3c0414dbad856bedcb7539037fb76ccac57b5", func := "harrier/harrierlaw4.EffortZonesMatchSpec", spec := "effortZonesMatchSpec", unfollowed := true, recurses := true, apart := false }
def EffortZonesMatchSpecSaid : Prop := effortZonesMatchSpecRow.holds Try.pinned (OpenSpec.ofChange effortZonesMatchSpecSpec)

/-- ITS FALSE NEIGHBOUR: 'it returns false'. Refute it at one input. -/
def effortZonesMatchSpecWrong : ChangeSpec := { name := "effortZonesMatchSpec", fn := fun _ => fun
  | [d1, d2] => { results := [.lit (.bool false)], args := [d1, d2] }
  | _ => none }
def EffortZonesMatchSpecWrongFalsely : Prop := effortZonesMatchSpecRow.holds Try.pinned (OpenSpec.ofChange effortZonesMatchSpecWrong)

/-- 'harrierlaw4.EffortCurvesMatchSpec': WHATEVER THE INPUT: true; the input reads as it did. -/
def effortCurvesMatchSpecSpec : ChangeSpec := { name := "effortCurvesMatchSpec", fn := fun _ => fun
  | [d1, d2, d3] => { results := [.lit (.bool true)], args := [d1, d2, d3] }
  | _ => none }
def effortCurvesMatchSpecRow : OpenClaim := { program := "ytafkojlccknicaa", sum := "d1bc1d62d594faf4121ae621f3c3c0414dbad856bedcb7539037fb76ccac57b5", func := "harrier/harrierlaw4.EffortCurvesMatchSpec", spec := "effortCurvesMatchSpec", unfollowed := true, recurses := true, apart := false }
def EffortCurvesMatchSpecSaid : Prop := effortCurvesMatchSpecRow.holds Try.pinned (OpenSpec.ofChange effortCurvesMatchSpecSpec)

/-- ITS FALSE NEIGHBOUR: 'it returns false'. Refute it at one input. -/
def effortCurvesMatchSpecWrong : ChangeSpec := { name := "effortCurvesMatchSpec", fn := fun _ => fun
  | [d1, d2, d3] => { results := [.lit (.bool false)], args := [d1, d2, d3] }
  | _ => none }
def EffortCurvesMatchSpecWrongFalsely : Prop := effortCurvesMatchSpecRow.holds Try.pinned (OpenSpec.ofChange effortCurvesMatchSpecWrong)

/-- 'harrierlaw4.EffortStreamsMatchSpec': WHATEVER THE INPUT: true; the input reads as it did. -/
def effortStreamsMatchSpecSpec : ChangeSpec := { name := "effortStreamsMatchSpec", fn := fun _ => fun
  | [d1, d2] => { results := [.lit (.bool true)], args := [d1, d2] }
  | _ => none }
def effortStreamsMatchSpecRow : OpenClaim := { program := "ytafkojlccknicaa", sum := "d1bc1d62d594faf4121ae621f3c3c0414dbad856bedcb7539037fb76ccac57b5", func := "harrier/harrierlaw4.EffortStreamsMatchSpec", spec := "effortStreamsMatchSpec", unfollowed := true, recurses := true, apart := false }
def EffortStreamsMatchSpecSaid : Prop := effortStreamsMatchSpecRow.holds Try.pinned (OpenSpec.ofChange effortStreamsMatchSpecSpec)

/-- ITS FALSE NEIGHBOUR: 'it returns false'. Refute it at one input. -/
def effortStreamsMatchSpecWrong : ChangeSpec := { name := "effortStreamsMatchSpec", fn := fun _ => fun
  | [d1, d2] => { results := [.lit (.bool false)], args := [d1, d2] }
  | _ => none }
def EffortStreamsMatchSpecWrongFalsely : Prop := effortStreamsMatchSpecRow.holds Try.pinned (OpenSpec.ofChange effortStreamsMatchSpecWrong)

/-- 'harrierlaw4.EffortPartsAddUp': WHATEVER THE INPUT: true; the input reads as it did. -/
def effortPartsAddUpSpec : ChangeSpec := { name := "effortPartsAddUp", fn := fun _ => fun
  | [d1, d2, d3, d4] => { results := [.lit (.bool true)], args := [d1, d2, d3, d4] }
  | _ => none }
def effortPartsAddUpRow : OpenClaim := { program := "ytafkojlccknicaa", sum := "d1bc1d62d594faf4121ae621f3c3c0414dbad856bedcb7539037fb76ccac57b5", func := "harrier/harrierlaw4.EffortPartsAddUp", spec := "effortPartsAddUp", unfollowed := true, recurses := true, apart := false }
def EffortPartsAddUpSaid : Prop := effortPartsAddUpRow.holds Try.pinned (OpenSpec.ofChange effortPartsAddUpSpec)

/-- ITS FALSE NEIGHBOUR: 'it returns false'. Refute it at one input. -/
def effortPartsAddUpWrong : ChangeSpec := { name := "effortPartsAddUp", fn := fun _ => fun
  | [d1, d2, d3, d4] => { results := [.lit (.bool false)], args := [d1, d2, d3, d4] }
  | _ => none }
def EffortPartsAddUpWrongFalsely : Prop := effortPartsAddUpRow.holds Try.pinned (OpenSpec.ofChange effortPartsAddUpWrong)

/-- 'harrierlaw4.EffortLapsMatchSpec': WHATEVER THE INPUT: true; the input reads as it did. -/
def effortLapsMatchSpecSpec : ChangeSpec := { name := "effortLapsMatchSpec", fn := fun _ => fun
  | [d1, d2, d3] => { results := [.lit (.bool true)], args := [d1, d2, d3] }
  | _ => none }
def effortLapsMatchSpecRow : OpenClaim := { program := "ytafkojlccknicaa", sum := "d1bc1d62d594faf4121ae621f3c3c0414dbad856bedcb7539037fb76ccac57b5", func := "harrier/harrierlaw4.EffortLapsMatchSpec", spec := "effortLapsMatchSpec", unfollowed := true, recurses := true, apart := false }
def EffortLapsMatchSpecSaid : Prop := effortLapsMatchSpecRow.holds Try.pinned (OpenSpec.ofChange effortLapsMatchSpecSpec)

/-- ITS FALSE NEIGHBOUR: 'it returns false'. Refute it at one input. -/
def effortLapsMatchSpecWrong : ChangeSpec := { name := "effortLapsMatchSpec", fn := fun _ => fun
  | [d1, d2, d3] => { results := [.lit (.bool false)], args := [d1, d2, d3] }
  | _ => none }
def EffortLapsMatchSpecWrongFalsely : Prop := effortLapsMatchSpecRow.holds Try.pinned (OpenSpec.ofChange effortLapsMatchSpecWrong)

/-- 'harrierlaw4.EffortPartsMatchSpec': WHATEVER THE INPUT: true; the input reads as it did. -/
def effortPartsMatchSpecSpec : ChangeSpec := { name := "effortPartsMatchSpec", fn := fun _ => fun
  | [d1, d2, d3] => { results := [.lit (.bool true)], args := [d1, d2, d3] }
  | _ => none }
def effortPartsMatchSpecRow : OpenClaim := { program := "ytafkojlccknicaa", sum := "d1bc1d62d594faf4121ae621f3c3c0414dbad856bedcb7539037fb76ccac57b5", func := "harrier/harrierlaw4.EffortPartsMatchSpec", spec := "effortPartsMatchSpec", unfollowed := true, recurses := true, apart := false }
def EffortPartsMatchSpecSaid : Prop := effortPartsMatchSpecRow.holds Try.pinned (OpenSpec.ofChange effortPartsMatchSpecSpec)

/-- ITS FALSE NEIGHBOUR: 'it returns false'. Refute it at one input. -/
def effortPartsMatchSpecWrong : ChangeSpec := { name := "effortPartsMatchSpec", fn := fun _ => fun
  | [d1, d2, d3] => { results := [.lit (.bool false)], args := [d1, d2, d3] }
  | _ => none }
def EffortPartsMatchSpecWrongFalsely : Prop := effortPartsMatchSpecRow.holds Try.pinned (OpenSpec.ofChange effortPartsMatchSpecWrong)

/-- 'harrierlaw4.EffortMergesMatchSpec': WHATEVER THE INPUT: true; the input reads as it did. -/
def effortMergesMatchSpecSpec : ChangeSpec := { name := "effortMergesMatchSpec", fn := fun _ => fun
  | [d1, d2] => { results := [.lit (.bool true)], args := [d1, d2] }
  | _ => none }
def effortMergesMatchSpecRow : OpenClaim := { program := "ytafkojlccknicaa", sum := "d1bc1d62d594faf4121ae621f3c3c0414dbad856bedcb7539037fb76ccac57b5", func := "harrier/harrierlaw4.EffortMergesMatchSpec", spec := "effortMergesMatchSpec", unfollowed := true, recurses := true, apart := false }
def EffortMergesMatchSpecSaid : Prop := effortMergesMatchSpecRow.holds Try.pinned (OpenSpec.ofChange effortMergesMatchSpecSpec)

/-- ITS FALSE NEIGHBOUR: 'it returns false'. Refute it at one input. -/
def effortMergesMatchSpecWrong : ChangeSpec := { name := "effortMergesMatchSpec", fn := fun _ => fun
  | [d1, d2] => { results := [.lit (.bool false)], args := [d1, d2] }
  | _ => none }
def EffortMergesMatchSpecWrongFalsely : Prop := effortMergesMatchSpecRow.holds Try.pinned (OpenSpec.ofChange effortMergesMatchSpecWrong)

/-- 'harrierlaw4.EffortMergeIsOneForAll': WHATEVER THE INPUT: true; the input reads as it did. -/
def effortMergeIsOneForAllSpec : ChangeSpec := { name := "effortMergeIsOneForAll", fn := fun _ => fun
  | [d1, d2, d3] => { results := [.lit (.bool true)], args := [d1, d2, d3] }
  | _ => none }
def effortMergeIsOneForAllRow : OpenClaim := { program := "ytafkojlccknicaa", sum := "d1bc1d62d594faf4121ae621f3c3c0414dbad856bedcb7539037fb76ccac57b5", func := "harrier/harrierlaw4.EffortMergeIsOneForAll", spec := "effortMergeIsOneForAll", unfollowed := true, recurses := true, apart := false }
def EffortMergeIsOneForAllSaid : Prop := effortMergeIsOneForAllRow.holds Try.pinned (OpenSpec.ofChange effortMergeIsOneForAllSpec)

/-- ITS FALSE NEIGHBOUR: 'it returns false'. Refute it at one input. -/
def effortMergeIsOneForAllWrong : ChangeSpec := { name := "effortMergeIsOneForAll", fn := fun _ => fun
  | [d1, d2, d3] => { results := [.lit (.bool false)], args := [d1, d2, d3] }
  | _ => none }
def EffortMergeIsOneForAllWrongFalsely : Prop := effortMergeIsOneForAllRow.holds Try.pinned (OpenSpec.ofChange effortMergeIsOneForAllWrong)

/-- 'harrierlaw4.EffortBookMatchesSpec': WHATEVER THE INPUT: true; the input reads as it did. -/
def effortBookMatchesSpecSpec : ChangeSpec := { name := "effortBookMatchesSpec", fn := fun _ => fun
  | [d1, d2] => { results := [.lit (.bool true)], args := [d1, d2] }
  | _ => none }
def effortBookMatchesSpecRow : OpenClaim := { program := "ytafkojlccknicaa", sum := "d1bc1d62d594faf4121ae621f3c3c0414dbad856bedcb7539037fb76ccac57b5", func := "harrier/harrierlaw4.EffortBookMatchesSpec", spec := "effortBookMatchesSpec", inPlace := ["internal/bytealg.abigen_runtime_cmpstring"], unfollowed := true, recurses := true, apart := false }
def EffortBookMatchesSpecSaid : Prop := effortBookMatchesSpecRow.holds Try.pinned (OpenSpec.ofChange effortBookMatchesSpecSpec)

/-- ITS FALSE NEIGHBOUR: 'it returns false'. Refute it at one input. -/
def effortBookMatchesSpecWrong : ChangeSpec := { name := "effortBookMatchesSpec", fn := fun _ => fun
  | [d1, d2] => { results := [.lit (.bool false)], args := [d1, d2] }
  | _ => none }
def EffortBookMatchesSpecWrongFalsely : Prop := effortBookMatchesSpecRow.holds Try.pinned (OpenSpec.ofChange effortBookMatchesSpecWrong)

/- THE SECOND FORM. 'bulk': how many values and letters a reading holds, each counted each time it is reached (what is shared counts as often as it is met; a slice's spare places count too). A statement '..UptoSaid' is the law's where the arguments, and the package variables that the reading takes, are together of bulk at most 1048576: NARROWER than '..Said'. Prove '..Said' where nothing that the law and all that it calls make is longer than what came in: it says more and counts as full. Else prove '..UptoSaid'. A law counts once. -/
mutual
def uptoBulk {H : Type} : DataW H → Nat
  | .lit (.string bytes) => bytes.length + 1
  | .lit _ => 1
  | .nil => 1
  | .ptr d => uptoBulk d + 1
  | .slice elems spare => uptoBulkAll elems + uptoBulkAll spare + 1
  | .agg parts => uptoBulkAll parts + 1
  | .iface _ d => uptoBulk d + 1
  | .map entries => uptoBulkEntries entries + 1
  | .held _ => 1
def uptoBulkAll {H : Type} : List (DataW H) → Nat
  | [] => 0
  | d :: r => uptoBulk d + uptoBulkAll r
def uptoBulkEntries {H : Type} : List (Lit × DataW H) → Nat
  | [] => 0
  | x :: r => uptoBulkEntry x + uptoBulkEntries r
def uptoBulkEntry {H : Type} : Lit × DataW H → Nat
  | (.string bytes, d) => bytes.length + uptoBulk d + 1
  | (_, d) => uptoBulk d + 1
 end
def uptoSmall : (H : Type) → List (DataW H) → Bool := fun _ ds => decide (uptoBulkAll ds ≤ 1048576)
def OpenSpec.upto (s : _root_.Go.ChangeSpec) : _root_.Go.OpenSpec := { _root_.Go.OpenSpec.ofChange s with cond := some uptoSmall }

/-- 'harrierlaw4.EffortBestIsBest', WHERE WHAT IT READS IS OF BULK AT MOST 1048576: true; the input reads as it did. -/
def effortBestIsBestUptoRow : OpenClaim := { program := "ytafkojlccknicaa", sum := "d1bc1d62d594faf4121ae621f3c3c0414dbad856bedcb7539037fb76ccac57b5", func := "harrier/harrierlaw4.EffortBestIsBest", spec := "effortBestIsBest", unfollowed := true, recurses := true, apart := false, narrowed := true }
def EffortBestIsBestUptoSaid : Prop := effortBestIsBestUptoRow.holds Try.pinned (OpenSpec.upto effortBestIsBestSpec)

/-- 'harrierlaw4.EffortBestMatchesSpec', WHERE WHAT IT READS IS OF BULK AT MOST 1048576: true; the input reads as it did. -/
def effortBestMatchesSpecUptoRow : OpenClaim := { program := "ytafkojlccknicaa", sum := "d1bc1d62d594faf4121ae621f3c3c0414dbad856bedcb7539037fb76ccac57b5", func := "harrier/harrierlaw4.EffortBestMatchesSpec", spec := "effortBestMatchesSpec", unfollowed := true, recurses := true, apart := false, narrowed := true }
def EffortBestMatchesSpecUptoSaid : Prop := effortBestMatchesSpecUptoRow.holds Try.pinned (OpenSpec.upto effortBestMatchesSpecSpec)

/-- 'harrierlaw4.EffortZonesMatchSpec', WHERE WHAT IT READS IS OF BULK AT MOST 1048576: true; the input reads as it did. -/
def effortZonesMatchSpecUptoRow : OpenClaim := { program := "ytafkojlccknicaa", sum := "d1bc1d62d594faf4121ae621f3c3c0414dbad856bedcb7539037fb76ccac57b5", func := "harrier/harrierlaw4.EffortZonesMatchSpec", spec := "effortZonesMatchSpec", unfollowed := true, recurses := true, apart := false, narrowed := true }
def EffortZonesMatchSpecUptoSaid : Prop := effortZonesMatchSpecUptoRow.holds Try.pinned (OpenSpec.upto effortZonesMatchSpecSpec)

/-- 'harrierlaw4.EffortCurvesMatchSpec', WHERE WHAT IT READS IS OF BULK AT MOST 1048576: true; the input reads as it did. -/
def effortCurvesMatchSpecUptoRow : OpenClaim := { program := "ytafkojlccknicaa", sum := "d1bc1d62d594faf4121ae621f3c3c0414dbad856bedcb7539037fb76ccac57b5", func := "harrier/harrierlaw4.EffortCurvesMatchSpec", spec := "effortCurvesMatchSpec", unfollowed := true, recurses := true, apart := false, narrowed := true }
def EffortCurvesMatchSpecUptoSaid : Prop := effortCurvesMatchSpecUptoRow.holds Try.pinned (OpenSpec.upto effortCurvesMatchSpecSpec)

/-- 'harrierlaw4.EffortStreamsMatchSpec', WHERE WHAT IT READS IS OF BULK AT MOST 1048576: true; the input reads as it did. -/
def effortStreamsMatchSpecUptoRow : OpenClaim := { program := "ytafkojlccknicaa", sum := "d1bc1d62d594faf4121ae621f3c3c0414dbad856bedcb7539037fb76ccac57b5", func := "harrier/harrierlaw4.EffortStreamsMatchSpec", spec := "effortStreamsMatchSpec", unfollowed := true, recurses := true, apart := false, narrowed := true }
def EffortStreamsMatchSpecUptoSaid : Prop := effortStreamsMatchSpecUptoRow.holds Try.pinned (OpenSpec.upto effortStreamsMatchSpecSpec)

/-- 'harrierlaw4.EffortPartsAddUp', WHERE WHAT IT READS IS OF BULK AT MOST 1048576: true; the input reads as it did. -/
def effortPartsAddUpUptoRow : OpenClaim := { program := "ytafkojlccknicaa", sum := "d1bc1d62d594faf4121ae621f3c3c0414dbad856bedcb7539037fb76ccac57b5", func := "harrier/harrierlaw4.EffortPartsAddUp", spec := "effortPartsAddUp", unfollowed := true, recurses := true, apart := false, narrowed := true }
def EffortPartsAddUpUptoSaid : Prop := effortPartsAddUpUptoRow.holds Try.pinned (OpenSpec.upto effortPartsAddUpSpec)

/-- 'harrierlaw4.EffortLapsMatchSpec', WHERE WHAT IT READS IS OF BULK AT MOST 1048576: true; the input reads as it did. -/
def effortLapsMatchSpecUptoRow : OpenClaim := { program := "ytafkojlccknicaa", sum := "d1bc1d62d594faf4121ae621f3c3c0414dbad856bedcb7539037fb76ccac57b5", func := "harrier/harrierlaw4.EffortLapsMatchSpec", spec := "effortLapsMatchSpec", unfollowed := true, recurses := true, apart := false, narrowed := true }
def EffortLapsMatchSpecUptoSaid : Prop := effortLapsMatchSpecUptoRow.holds Try.pinned (OpenSpec.upto effortLapsMatchSpecSpec)

/-- 'harrierlaw4.EffortPartsMatchSpec', WHERE WHAT IT READS IS OF BULK AT MOST 1048576: true; the input reads as it did. -/
def effortPartsMatchSpecUptoRow : OpenClaim := { program := "ytafkojlccknicaa", sum := "d1bc1d62d594faf4121ae621f3c3c0414dbad856bedcb7539037fb76ccac57b5", func := "harrier/harrierlaw4.EffortPartsMatchSpec", spec := "effortPartsMatchSpec", unfollowed := true, recurses := true, apart := false, narrowed := true }
def EffortPartsMatchSpecUptoSaid : Prop := effortPartsMatchSpecUptoRow.holds Try.pinned (OpenSpec.upto effortPartsMatchSpecSpec)

/-- 'harrierlaw4.EffortMergesMatchSpec', WHERE WHAT IT READS IS OF BULK AT MOST 1048576: true; the input reads as it did. -/
def effortMergesMatchSpecUptoRow : OpenClaim := { program := "ytafkojlccknicaa", sum := "d1bc1d62d594faf4121ae621f3c3c0414dbad856bedcb7539037fb76ccac57b5", func := "harrier/harrierlaw4.EffortMergesMatchSpec", spec := "effortMergesMatchSpec", unfollowed := true, recurses := true, apart := false, narrowed := true }
def EffortMergesMatchSpecUptoSaid : Prop := effortMergesMatchSpecUptoRow.holds Try.pinned (OpenSpec.upto effortMergesMatchSpecSpec)

/-- 'harrierlaw4.EffortMergeIsOneForAll', WHERE WHAT IT READS IS OF BULK AT MOST 1048576: true; the input reads as it did. -/
def effortMergeIsOneForAllUptoRow : OpenClaim := { program := "ytafkojlccknicaa", sum := "d1bc1d62d594faf4121ae621f3c3c0414dbad856bedcb7539037fb76ccac57b5", func := "harrier/harrierlaw4.EffortMergeIsOneForAll", spec := "effortMergeIsOneForAll", unfollowed := true, recurses := true, apart := false, narrowed := true }
def EffortMergeIsOneForAllUptoSaid : Prop := effortMergeIsOneForAllUptoRow.holds Try.pinned (OpenSpec.upto effortMergeIsOneForAllSpec)

/-- 'harrierlaw4.EffortBookMatchesSpec', WHERE WHAT IT READS IS OF BULK AT MOST 1048576: true; the input reads as it did. -/
def effortBookMatchesSpecUptoRow : OpenClaim := { program := "ytafkojlccknicaa", sum := "d1bc1d62d594faf4121ae621f3c3c0414dbad856bedcb7539037fb76ccac57b5", func := "harrier/harrierlaw4.EffortBookMatchesSpec", spec := "effortBookMatchesSpec", inPlace := ["internal/bytealg.abigen_runtime_cmpstring"], unfollowed := true, recurses := true, apart := false, narrowed := true }
def EffortBookMatchesSpecUptoSaid : Prop := effortBookMatchesSpecUptoRow.holds Try.pinned (OpenSpec.upto effortBookMatchesSpecSpec)

end Rows
end Go.Proofs.Ytafkojlccknicaa
