/-
  No cell of these rows narrows 'for every input' (looked for: loops, veiled, ifaces, maps, wideKeys, modest, calm, conditions, laid).
  DERIVED. THE GIVEN ROWS OF THIS SEAT. 3 by the template 'for every input the law returns true; each argument reads behind the call as it read before'; 0 by the template 'total and deterministic' (their statements: YtfbmkepogcimlaaTotals.lean).
  GIVEN WITH THE SEED: the statements are not yours to turn. If you find one false, say at which input.
  Laid BY PROGRAM, IN A SANDBOX (cutbox-rows.mjs): the forced cells as the released guide's own fill.sh prints them over the translation 9f1dc24db2be59bd… (all of the seat's roots in one cut). By AI agents, Wed Nov 11 2026. No macro, syntax, notation, axiom, sorry.
-/
import Derived.Test.YtfbmkepogcimlaaChecked
import GoSem.Claim
import GoSem.ClaimJoined
import GoSem.ClaimMapViews
import Derived.JoinedTies
import Derived.KernelRfl
namespace Go.Proofs.Ytfbmkepogcimlaa
/- THE CELL 'sum', in the pinned program and in every row, IS THE sha256 OF THE DUMP (.gsa) THAT YtfbmkepogcimlaaProg.lean LOADS. Nothing in Lean hashes anything: it is a label: what it is worth is what the hold of that sum in a sandbox is worth. -/
noncomputable def Try.pinned : Pinned := { name := "ytfbmkepogcimlaa", sum := "9f1dc24db2be59bd7c5f8de069db7c40675709593a9c1390a45fa30aac09bda0", checked := Try.checked }
namespace Rows
def none {H : Type} : Left H := { results := [], args := [] }

/-- 'harriertop.TopWearAddsUp': WHATEVER THE INPUT: true; the input reads as it did. -/
def topWearAddsUpSpec : ChangeSpec := { name := "topWearAddsUp", fn := fun _ => fun
  | [d] => { results := [.lit (.bool true)], args := [d] }
  | _ => none }
def topWearAddsUpRow : OpenClaim := { program := "ytfbmkepogcimlaa", sum := "9f1dc24db2be59bd7c5f8de069db7c40675709593a9c1390a45fa30aac09bda0", func := "harrier/harriertop.TopWearAddsUp", spec := "topWearAddsUp", inPlace := ["internal/bytealg.abigen_runtime_cmpstring"], unfollowed := true, recurses := true, named := ["math/bits.divideError", "math/bits.overflowError"], apart := false }
def TopWearAddsUpSaid : Prop := topWearAddsUpRow.holds Try.pinned (OpenSpec.ofChange topWearAddsUpSpec)

/-- ITS FALSE NEIGHBOUR: 'it returns false'. Refute it at one input. -/
def topWearAddsUpWrong : ChangeSpec := { name := "topWearAddsUp", fn := fun _ => fun
  | [d] => { results := [.lit (.bool false)], args := [d] }
  | _ => none }
def TopWearAddsUpWrongFalsely : Prop := topWearAddsUpRow.holds Try.pinned (OpenSpec.ofChange topWearAddsUpWrong)

/-- 'harriertop.TopSegmentsAreFound': WHATEVER THE INPUT: true; the input reads as it did. -/
def topSegmentsAreFoundSpec : ChangeSpec := { name := "topSegmentsAreFound", fn := fun _ => fun
  | [d1, d2, d3, d4, d5] => { results := [.lit (.bool true)], args := [d1, d2, d3, d4, d5] }
  | _ => none }
def topSegmentsAreFoundRow : OpenClaim := { program := "ytfbmkepogcimlaa", sum := "9f1dc24db2be59bd7c5f8de069db7c40675709593a9c1390a45fa30aac09bda0", func := "harrier/harriertop.TopSegmentsAreFound", spec := "topSegmentsAreFound", inPlace := ["slices.overlaps[harrier/api.Sample]"], unfollowed := true, recurses := true, named := ["math/bits.divideError", "math/bits.overflowError"], apart := false }
def TopSegmentsAreFoundSaid : Prop := topSegmentsAreFoundRow.holds Try.pinned (OpenSpec.ofChange topSegmentsAreFoundSpec)

/-- ITS FALSE NEIGHBOUR: 'it returns false'. Refute it at one input. -/
def topSegmentsAreFoundWrong : ChangeSpec := { name := "topSegmentsAreFound", fn := fun _ => fun
  | [d1, d2, d3, d4, d5] => { results := [.lit (.bool false)], args := [d1, d2, d3, d4, d5] }
  | _ => none }
def TopSegmentsAreFoundWrongFalsely : Prop := topSegmentsAreFoundRow.holds Try.pinned (OpenSpec.ofChange topSegmentsAreFoundWrong)

/-- 'harriertop.TopLengthsAddUp': WHATEVER THE INPUT: true; the input reads as it did. -/
def topLengthsAddUpSpec : ChangeSpec := { name := "topLengthsAddUp", fn := fun _ => fun
  | [d1, d2] => { results := [.lit (.bool true)], args := [d1, d2] }
  | _ => none }
def topLengthsAddUpRow : OpenClaim := { program := "ytfbmkepogcimlaa", sum := "9f1dc24db2be59bd7c5f8de069db7c40675709593a9c1390a45fa30aac09bda0", func := "harrier/harriertop.TopLengthsAddUp", spec := "topLengthsAddUp", unfollowed := true, recurses := true, named := ["math/bits.divideError", "math/bits.overflowError"], apart := false }
def TopLengthsAddUpSaid : Prop := topLengthsAddUpRow.holds Try.pinned (OpenSpec.ofChange topLengthsAddUpSpec)

/-- ITS FALSE NEIGHBOUR: 'it returns false'. Refute it at one input. -/
def topLengthsAddUpWrong : ChangeSpec := { name := "topLengthsAddUp", fn := fun _ => fun
  | [d1, d2] => { results := [.lit (.bool false)], args := [d1, d2] }
  | _ => none }
def TopLengthsAddUpWrongFalsely : Prop := topLengthsAddUpRow.holds Try.pinned (OpenSpec.ofChange topLengthsAddUpWrong)

/- THE SECOND FORM. 'bulk': how many values and letters a reading holds, each counted each time it is reached (what is shared counts as often as it is met; a slice's spare places count too). A statement '..UptoSaid' is the law's where the arguments, and the package variables that the reading takes, are together of bulk at most 1048576: NARROWER than '..Said'. Prove '..Said' where nothing that the law and all that it calls make is longer than what came in: it says more and counts as full. Else prove '..UptoSaid'. A law counts once. -/
mutual
def uptoBulk {H : Type} : DataW H → Nat
  | .lit (.string bytes) => bytes.length + 1
  | .lit _ => 1
  | .nil => 1
  | .ptr d => uptoBulk d + 1
  | .slice elems spare => uptoBulkAll elems + uptoBulkAll spare + 1
  | .agg parts => uptoBulkAll parts + 1
  | .iface _ d => uptoBulk d + 1
  | .map entries => uptoBulkEntries entries + 1
  | .held _ => 1
def uptoBulkAll {H : Type} : List (DataW H) → Nat
  | [] => 0
  | d :: r => uptoBulk d + uptoBulkAll r
def uptoBulkEntries {H : Type} : List (Lit × DataW H) → Nat
  | [] => 0
  | x :: r => uptoBulkEntry x + uptoBulkEntries r
def uptoBulkEntry {H : Type} : Lit × DataW H → Nat
  | (.string bytes, d) => bytes.length + uptoBulk d + 1
  | (_, d) => uptoBulk d + 1
 end
def uptoSmall : (H : Type) → List (DataW H) → Bool := fun _ ds => decide (uptoBulkAll ds ≤ 1048576)
def OpenSpec.upto (s : _root_.Go.ChangeSpec) : _root_.Go.OpenSpec := { _root_.Go.OpenSpec.ofChange s with cond := some uptoSmall }

/-- 'harriertop.TopWearAddsUp', WHERE WHAT IT READS IS OF BULK AT MOST 1048576: true; the input reads as it did. -/
def topWearAddsUpUptoRow : OpenClaim := { program := "ytfbmkepogcimlaa", sum := "9f1dc24db2be59bd7c5f8de069db7c40675709593a9c1390a45fa30aac09bda0", func := "harrier/harriertop.TopWearAddsUp", spec := "topWearAddsUp", inPlace := ["internal/bytealg.abigen_runtime_cmpstring"], unfollowed := true, recurses := true, named := ["math/bits.divideError", "math/bits.overflowError"], apart := false, narrowed := true }
def TopWearAddsUpUptoSaid : Prop := topWearAddsUpUptoRow.holds Try.pinned (OpenSpec.upto topWearAddsUpSpec)

/-- 'harriertop.TopSegmentsAreFound', WHERE WHAT IT READS IS OF BULK AT MOST 1048576: true; the input reads as it did. -/
def topSegmentsAreFoundUptoRow : OpenClaim := { program := "ytfbmkepogcimlaa", sum := "9f1dc24db2be59bd7c5f8de069db7c40675709593a9c1390a45fa30aac09bda0", func := "harrier/harriertop.TopSegmentsAreFound", spec := "topSegmentsAreFound", inPlace := ["slices.overlaps[harrier/api.Sample]"], unfollowed := true, recurses := true, named := ["math/bits.divideError", "math/bits.overflowError"], apart := false, narrowed := true }
def TopSegmentsAreFoundUptoSaid : Prop := topSegmentsAreFoundUptoRow.holds Try.pinned (OpenSpec.upto topSegmentsAreFoundSpec)

/-- 'harriertop.TopLengthsAddUp', WHERE WHAT IT READS IS OF BULK AT MOST 1048576: true; the input reads as it did. -/
def topLengthsAddUpUptoRow : OpenClaim := { program := "ytfbmkepogcimlaa", sum := "9f1dc24db2be59bd7c5f8de069db7c40675709593a9c1390a45fa30aac09bda0", func := "harrier/harriertop.TopLengthsAddUp", spec := "topLengthsAddUp", unfollowed := true, recurses := true, named := ["math/bits.divideError", "math/bits.overflowError"], apart := false, narrowed := true }
def TopLengthsAddUpUptoSaid : Prop := topLengthsAddUpUptoRow.holds Try.pinned (OpenSpec.upto topLengthsAddUpSpec)

end Rows
end Go.Proofs.Ytfbmkepogcimlaa
