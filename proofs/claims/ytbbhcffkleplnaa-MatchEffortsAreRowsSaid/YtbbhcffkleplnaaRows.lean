/-
  No cell of these rows narrows 'for every input' (looked for: loops, veiled, ifaces, maps, wideKeys, modest, calm, conditions, laid).
  DERIVED. THE GIVEN ROWS OF THIS SEAT. 6 by the template 'for every input the law returns true; each argument reads behind the call as it read before'; 0 by the template 'total and deterministic' (their statements: YtbbhcffkleplnaaTotals.lean).
  GIVEN WITH THE SEED: the statements are not yours to turn. If you find one false, say at which input.
  Laid BY PROGRAM, IN A SANDBOX (cutbox-rows.mjs): the forced cells as the released guide's own fill.sh prints them over the translation de37077ce474e668… (all of the seat's roots in one cut). By AI agents, Wed Nov 11 2026. No macro, syntax, notation, axiom, sorry.
-/
import Derived.Test.YtbbhcffkleplnaaChecked
import GoSem.Claim
import GoSem.ClaimJoined
import GoSem.ClaimMapViews
import Derived.JoinedTies
import Derived.KernelRfl
namespace Go.Proofs.Ytbbhcffkleplnaa
/- THE CELL 'sum', in the pinned program and in every row, IS THE sha256 OF THE DUMP (.gsa) THAT YtbbhcffkleplnaaProg.lean LOADS. Nothing in Lean hashes anything: it is a label: what it is worth is what the hold of that sum in a sandbox is worth. -/
noncomputable def Try.pinned : Pinned := { name := "ytbbhcffkleplnaa", sum := "de37077ce474e6684f19f0d65e4d0b8b52e1de618f79a2337bd0f8fe72ad2549", checked := Try.checked }
namespace Rows
def none {H : Type} : Left H := { results := [], args := [] }

/-- 'harrierlaw5.MatchCrossingsMatchSpec': WHATEVER THE INPUT: true; the input reads as it did. -/
def matchCrossingsMatchSpecSpec : ChangeSpec := { name := "matchCrossingsMatchSpec", fn := fun _ => fun
  | [d1, d2] => { results := [.lit (.bool true)], args := [d1, d2] }
  | _ => none }
def matchCrossingsMatchSpecRow : OpenClaim := { program := "ytbbhcffkleplnaa", sum := "de37077ce474e6684f19f0d65e4d0b8b52e1de618f79a2337bd0f8fe72ad2549", func := "harrier/harrierlaw5.MatchCrossingsMatchSpec", spec := "matchCrossingsMatchSpec", unfollowed := true, recurses := true, named := ["math/bits.divideError", "math/bits.overflowError"], apart := false }
def MatchCrossingsMatchSpecSaid : Prop := matchCrossingsMatchSpecRow.holds Try.pinned (OpenSpec.ofChange matchCrossingsMatchSpecSpec)

/-- ITS FALSE NEIGHBOUR: 'it returns false'. Refute it at one input. -/
def matchCrossingsMatchSpecWrong : ChangeSpec := { name := "matchCrossingsMatchSpec", fn := fun _ => fun
  | [d1, d2] => { results := [.lit (.bool false)], args := [d1, d2] }
  | _ => none }
def MatchCrossingsMatchSpecWrongFalsely : Prop := matchCrossingsMatchSpecRow.holds Try.pinned (OpenSpec.ofChange matchCrossingsMatchSpecWrong)

/-- 'harrierlaw5.MatchSegmentsMatchSpec': WHATEVER THE INPUT: true; the input reads as it did. -/
def matchSegmentsMatchSpecSpec : ChangeSpec := { name := "matchSegmentsMatchSpec", fn := fun _ => fun
  | [d] => { results := [.lit (.bool true)], args := [d] }
  | _ => none }
def matchSegmentsMatchSpecRow : OpenClaim := { program := "ytbbhcffkleplnaa", sum := "de37077ce474e6684f19f0d65e4d0b8b52e1de618f79a2337bd0f8fe72ad2549", func := "harrier/harrierlaw5.MatchSegmentsMatchSpec", spec := "matchSegmentsMatchSpec", unfollowed := true, recurses := true, named := ["math/bits.divideError", "math/bits.overflowError"], apart := false }
def MatchSegmentsMatchSpecSaid : Prop := matchSegmentsMatchSpecRow.holds Try.pinned (OpenSpec.ofChange matchSegmentsMatchSpecSpec)

/-- ITS FALSE NEIGHBOUR: 'it returns false'. Refute it at one input. -/
def matchSegmentsMatchSpecWrong : ChangeSpec := { name := "matchSegmentsMatchSpec", fn := fun _ => fun
  | [d] => { results := [.lit (.bool false)], args := [d] }
  | _ => none }
def MatchSegmentsMatchSpecWrongFalsely : Prop := matchSegmentsMatchSpecRow.holds Try.pinned (OpenSpec.ofChange matchSegmentsMatchSpecWrong)

/-- 'harrierlaw5.MatchEffortsMatchSpec': WHATEVER THE INPUT: true; the input reads as it did. -/
def matchEffortsMatchSpecSpec : ChangeSpec := { name := "matchEffortsMatchSpec", fn := fun _ => fun
  | [d1, d2] => { results := [.lit (.bool true)], args := [d1, d2] }
  | _ => none }
def matchEffortsMatchSpecRow : OpenClaim := { program := "ytbbhcffkleplnaa", sum := "de37077ce474e6684f19f0d65e4d0b8b52e1de618f79a2337bd0f8fe72ad2549", func := "harrier/harrierlaw5.MatchEffortsMatchSpec", spec := "matchEffortsMatchSpec", unfollowed := true, recurses := true, named := ["math/bits.divideError", "math/bits.overflowError"], apart := false }
def MatchEffortsMatchSpecSaid : Prop := matchEffortsMatchSpecRow.holds Try.pinned (OpenSpec.ofChange matchEffortsMatchSpecSpec)

/-- ITS FALSE NEIGHBOUR: 'it returns false'. Refute it at one input. -/
def matchEffortsMatchSpecWrong : ChangeSpec := { name := "matchEffortsMatchSpec", fn := fun _ => fun
  | [d1, d2] => { results := [.lit (.bool false)], args := [d1, d2] }
  | _ => none }
def MatchEffortsMatchSpecWrongFalsely : Prop := matchEffortsMatchSpecRow.holds Try.pinned (OpenSpec.ofChange matchEffortsMatchSpecWrong)

/-- 'harrierlaw5.MatchEffortsAreRows': WHATEVER THE INPUT: true; the input reads as it did. -/
def matchEffortsAreRowsSpec : ChangeSpec := { name := "matchEffortsAreRows", fn := fun _ => fun
  | [d1, d2] => { results := [.lit (.bool true)], args := [d1, d2] }
  | _ => none }
def matchEffortsAreRowsRow : OpenClaim := { program := "ytbbhcffkleplnaa", sum := "de37077ce474e6684f19f0d65e4d0b8b52e1de618f79a2337bd0f8fe72ad2549", func := "harrier/harrierlaw5.MatchEffortsAreRows", spec := "matchEffortsAreRows", unfollowed := true, recurses := true, named := ["math/bits.divideError", "math/bits.overflowError"], apart := false }
def MatchEffortsAreRowsSaid : Prop := matchEffortsAreRowsRow.holds Try.pinned (OpenSpec.ofChange matchEffortsAreRowsSpec)

/-- ITS FALSE NEIGHBOUR: 'it returns false'. Refute it at one input. -/
def matchEffortsAreRowsWrong : ChangeSpec := { name := "matchEffortsAreRows", fn := fun _ => fun
  | [d1, d2] => { results := [.lit (.bool false)], args := [d1, d2] }
  | _ => none }
def MatchEffortsAreRowsWrongFalsely : Prop := matchEffortsAreRowsRow.holds Try.pinned (OpenSpec.ofChange matchEffortsAreRowsWrong)

/-- 'harrierlaw5.MatchApartIsFair': WHATEVER THE INPUT: true; the input reads as it did. -/
def matchApartIsFairSpec : ChangeSpec := { name := "matchApartIsFair", fn := fun _ => fun
  | [d1, d2] => { results := [.lit (.bool true)], args := [d1, d2] }
  | _ => none }
def matchApartIsFairRow : OpenClaim := { program := "ytbbhcffkleplnaa", sum := "de37077ce474e6684f19f0d65e4d0b8b52e1de618f79a2337bd0f8fe72ad2549", func := "harrier/harrierlaw5.MatchApartIsFair", spec := "matchApartIsFair", unfollowed := true, recurses := true, named := ["math/bits.divideError", "math/bits.overflowError"], apart := false }
def MatchApartIsFairSaid : Prop := matchApartIsFairRow.holds Try.pinned (OpenSpec.ofChange matchApartIsFairSpec)

/-- ITS FALSE NEIGHBOUR: 'it returns false'. Refute it at one input. -/
def matchApartIsFairWrong : ChangeSpec := { name := "matchApartIsFair", fn := fun _ => fun
  | [d1, d2] => { results := [.lit (.bool false)], args := [d1, d2] }
  | _ => none }
def MatchApartIsFairWrongFalsely : Prop := matchApartIsFairRow.holds Try.pinned (OpenSpec.ofChange matchApartIsFairWrong)

/-- 'harrierlaw5.MatchRoutesMatchSpec': WHATEVER THE INPUT: true; the input reads as it did. -/
def matchRoutesMatchSpecSpec : ChangeSpec := { name := "matchRoutesMatchSpec", fn := fun _ => fun
  | [d1, d2, d3, d4] => { results := [.lit (.bool true)], args := [d1, d2, d3, d4] }
  | _ => none }
def matchRoutesMatchSpecRow : OpenClaim := { program := "ytbbhcffkleplnaa", sum := "de37077ce474e6684f19f0d65e4d0b8b52e1de618f79a2337bd0f8fe72ad2549", func := "harrier/harrierlaw5.MatchRoutesMatchSpec", spec := "matchRoutesMatchSpec", unfollowed := true, recurses := true, named := ["math/bits.divideError", "math/bits.overflowError"], apart := false }
def MatchRoutesMatchSpecSaid : Prop := matchRoutesMatchSpecRow.holds Try.pinned (OpenSpec.ofChange matchRoutesMatchSpecSpec)

/-- ITS FALSE NEIGHBOUR: 'it returns false'. Refute it at one input. -/
def matchRoutesMatchSpecWrong : ChangeSpec := { name := "matchRoutesMatchSpec", fn := fun _ => fun
  | [d1, d2, d3, d4] => { results := [.lit (.bool false)], args := [d1, d2, d3, d4] }
  | _ => none }
def MatchRoutesMatchSpecWrongFalsely : Prop := matchRoutesMatchSpecRow.holds Try.pinned (OpenSpec.ofChange matchRoutesMatchSpecWrong)

/- THE SECOND FORM. 'bulk': how many values and letters a reading holds, each counted each time it is reached (what is shared counts as often as it is met; a slice's spare places count too). A statement '..UptoSaid' is the law's where the arguments, and the package variables that the reading takes, are together of bulk at most 1048576: NARROWER than '..Said'. Prove '..Said' where nothing that the law and all that it calls make is longer than what came in: it says more and counts as full. Else prove '..UptoSaid'. A law counts once. -/
mutual
def uptoBulk {H : Type} : DataW H → Nat
  | .lit (.string bytes) => bytes.length + 1
  | .lit _ => 1
  | .nil => 1
  | .ptr d => uptoBulk d + 1
  | .slice elems spare => uptoBulkAll elems + uptoBulkAll spare + 1
  | .agg parts => uptoBulkAll parts + 1
  | .iface _ d => uptoBulk d + 1
  | .map entries => uptoBulkEntries entries + 1
  | .held _ => 1
def uptoBulkAll {H : Type} : List (DataW H) → Nat
  | [] => 0
  | d :: r => uptoBulk d + uptoBulkAll r
def uptoBulkEntries {H : Type} : List (Lit × DataW H) → Nat
  | [] => 0
  | x :: r => uptoBulkEntry x + uptoBulkEntries r
def uptoBulkEntry {H : Type} : Lit × DataW H → Nat
  | (.string bytes, d) => bytes.length + uptoBulk d + 1
  | (_, d) => uptoBulk d + 1
 end
def uptoSmall : (H : Type) → List (DataW H) → Bool := fun _ ds => decide (uptoBulkAll ds ≤ 1048576)
def OpenSpec.upto (s : _root_.Go.ChangeSpec) : _root_.Go.OpenSpec := { _root_.Go.OpenSpec.ofChange s with cond := some uptoSmall }

/-- 'harrierlaw5.MatchCrossingsMatchSpec', WHERE WHAT IT READS IS OF BULK AT MOST 1048576: true; the input reads as it did. -/
def matchCrossingsMatchSpecUptoRow : OpenClaim := { program := "ytbbhcffkleplnaa", sum := "de37077ce474e6684f19f0d65e4d0b8b52e1de618f79a2337bd0f8fe72ad2549", func := "harrier/harrierlaw5.MatchCrossingsMatchSpec", spec := "matchCrossingsMatchSpec", unfollowed := true, recurses := true, named := ["math/bits.divideError", "math/bits.overflowError"], apart := false, narrowed := true }
def MatchCrossingsMatchSpecUptoSaid : Prop := matchCrossingsMatchSpecUptoRow.holds Try.pinned (OpenSpec.upto matchCrossingsMatchSpecSpec)

/-- 'harrierlaw5.MatchSegmentsMatchSpec', WHERE WHAT IT READS IS OF BULK AT MOST 1048576: true; the input reads as it did. -/
def matchSegmentsMatchSpecUptoRow : OpenClaim := { program := "ytbbhcffkleplnaa", sum := "de37077ce474e6684f19f0d65e4d0b8b52e1de618f79a2337bd0f8fe72ad2549", func := "harrier/harrierlaw5.MatchSegmentsMatchSpec", spec := "matchSegmentsMatchSpec", unfollowed := true, recurses := true, named := ["math/bits.divideError", "math/bits.overflowError"], apart := false, narrowed := true }
def MatchSegmentsMatchSpecUptoSaid : Prop := matchSegmentsMatchSpecUptoRow.holds Try.pinned (OpenSpec.upto matchSegmentsMatchSpecSpec)

/-- 'harrierlaw5.MatchEffortsMatchSpec', WHERE WHAT IT READS IS OF BULK AT MOST 1048576: true; the input reads as it did. -/
def matchEffortsMatchSpecUptoRow : OpenClaim := { program := "ytbbhcffkleplnaa", sum := "de37077ce474e6684f19f0d65e4d0b8b52e1de618f79a2337bd0f8fe72ad2549", func := "harrier/harrierlaw5.MatchEffortsMatchSpec", spec := "matchEffortsMatchSpec", unfollowed := true, recurses := true, named := ["math/bits.divideError", "math/bits.overflowError"], apart := false, narrowed := true }
def MatchEffortsMatchSpecUptoSaid : Prop := matchEffortsMatchSpecUptoRow.holds Try.pinned (OpenSpec.upto matchEffortsMatchSpecSpec)

/-- 'harrierlaw5.MatchEffortsAreRows', WHERE WHAT IT READS IS OF BULK AT MOST 1048576: true; the input reads as it did. -/
def matchEffortsAreRowsUptoRow : OpenClaim := { program := "ytbbhcffkleplnaa", sum := "de37077ce474e6684f19f0d65e4d0b8b52e1de618f79a2337bd0f8fe72ad2549", func := "harrier/harrierlaw5.MatchEffortsAreRows", spec := "matchEffortsAreRows", unfollowed := true, recurses := true, named := ["math/bits.divideError", "math/bits.overflowError"], apart := false, narrowed := true }
def MatchEffortsAreRowsUptoSaid : Prop := matchEffortsAreRowsUptoRow.holds Try.pinned (OpenSpec.upto matchEffortsAreRowsSpec)

/-- 'harrierlaw5.MatchApartIsFair', WHERE WHAT IT READS IS OF BULK AT MOST 1048576: true; the input reads as it did. -/
def matchApartIsFairUptoRow : OpenClaim := { program := "ytbbhcffkleplnaa", sum := "de37077ce474e6684f19f0d65e4d0b8b52e1de618f79a2337bd0f8fe72ad2549", func := "harrier/harrierlaw5.MatchApartIsFair", spec := "matchApartIsFair", unfollowed := true, recurses := true, named := ["math/bits.divideError", "math/bits.overflowError"], apart := false, narrowed := true }
def MatchApartIsFairUptoSaid : Prop := matchApartIsFairUptoRow.holds Try.pinned (OpenSpec.upto matchApartIsFairSpec)

/-- 'harrierlaw5.MatchRoutesMatchSpec', WHERE WHAT IT READS IS OF BULK AT MOST 1048576: true; the input reads as it did. -/
def matchRoutesMatchSpecUptoRow : OpenClaim := { program := "ytbbhcffkleplnaa", sum := "de37077ce474e6684f19f0d65e4d0b8b52e1de618f79a2337bd0f8fe72ad2549", func := "harrier/harrierlaw5.MatchRoutesMatchSpec", spec := "matchRoutesMatchSpec", unfollowed := true, recurses := true, named := ["math/bits.divideError", "math/bits.overflowError"], apart := false, narrowed := true }
def MatchRoutesMatchSpecUptoSaid : Prop := matchRoutesMatchSpecUptoRow.holds Try.pinned (OpenSpec.upto matchRoutesMatchSpecSpec)

end Rows
end Go.Proofs.Ytbbhcffkleplnaa
