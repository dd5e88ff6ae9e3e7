/-
  No cell of these rows narrows 'for every input' (looked for: loops, veiled, ifaces, maps, wideKeys, modest, calm, conditions, laid).
  DERIVED. THE GIVEN ROWS OF THIS SEAT. 5 by the template 'for every input the law returns true; each argument reads behind the call as it read before'; 0 by the template 'total and deterministic' (their statements: YtjflbnbofedlkaaTotals.lean).
  GIVEN WITH THE SEED: the statements are not yours to turn. If you find one false, say at which input.
  Laid BY PROGRAM, IN A SANDBOX (cutbox-rows.mjs): the forced cells as the released guide's own fill.sh prints them over the translation b5389a3e01a04e90… (all of the seat's roots in one cut). By AI agents, Wed Nov 11 2026. No macro, syntax, notation, axiom, sorry.
-/
import Derived.Test.YtjflbnbofedlkaaChecked
import GoSem.Claim
import GoSem.ClaimJoined
import GoSem.ClaimMapViews
import Derived.JoinedTies
import Derived.KernelRfl
namespace Go.Proofs.Ytjflbnbofedlkaa
/- THE CELL 'sum', in the pinned program and in every row, IS THE sha256 OF THE DUMP (.gsa) THAT YtjflbnbofedlkaaProg.lean LOADS. Nothing in Lean hashes anything: it is a label: what it is worth is what the hold of that sum in a sandbox is worth. -/
noncomputable def Try.pinned : Pinned := { name := "ytjflbnbofedlkaa", sum := "b5389a3e01a04e903681f80d7065b5a307ce423927e54e9b38285c032b4bce4c", checked := Try.checked }
namespace Rows
def none {H : Type} : Left H := { results := [], args := [] }

/-- 'harrierlaw5.MatchPlacesMatchSpec': WHATEVER THE INPUT: true; the input reads as it did. -/
def matchPlacesMatchSpecSpec : ChangeSpec := { name := "matchPlacesMatchSpec", fn := fun _ => fun
  | [d1, d2] => { results := [.lit (.bool true)], args := [d1, d2] }
  | _ => none }
def matchPlacesMatchSpecRow : OpenClaim := { program := "ytjflbnbofedlkaa", sum := "b5389a3e01a04e903681f80d7065b5a307ce423927e54e9b38285c032b4bce4c", func := "harrier/harrierlaw5.MatchPlacesMatchSpec", spec := "matchPlacesMatchSpec", inPlace := ["internal/bytealg.abigen_runtime_cmpstring"], unfollowed := true, recurses := true, named := ["math/bits.divideError", "math/bits.overflowError"], plainKeys := false, apart := false }
def MatchPlacesMatchSpecSaid : Prop := matchPlacesMatchSpecRow.holds Try.pinned (OpenSpec.ofChange matchPlacesMatchSpecSpec)

/-- ITS FALSE NEIGHBOUR: 'it returns false'. Refute it at one input. -/
def matchPlacesMatchSpecWrong : ChangeSpec := { name := "matchPlacesMatchSpec", fn := fun _ => fun
  | [d1, d2] => { results := [.lit (.bool false)], args := [d1, d2] }
  | _ => none }
def MatchPlacesMatchSpecWrongFalsely : Prop := matchPlacesMatchSpecRow.holds Try.pinned (OpenSpec.ofChange matchPlacesMatchSpecWrong)

/-- 'harrierlaw5.MatchTilesMatchSpec': WHATEVER THE INPUT: true; the input reads as it did. -/
def matchTilesMatchSpecSpec : ChangeSpec := { name := "matchTilesMatchSpec", fn := fun _ => fun
  | [d1, d2, d3] => { results := [.lit (.bool true)], args := [d1, d2, d3] }
  | _ => none }
def matchTilesMatchSpecRow : OpenClaim := { program := "ytjflbnbofedlkaa", sum := "b5389a3e01a04e903681f80d7065b5a307ce423927e54e9b38285c032b4bce4c", func := "harrier/harrierlaw5.MatchTilesMatchSpec", spec := "matchTilesMatchSpec", unfollowed := true, recurses := true, named := ["math/bits.divideError", "math/bits.overflowError"], plainKeys := false, apart := false }
def MatchTilesMatchSpecSaid : Prop := matchTilesMatchSpecRow.holds Try.pinned (OpenSpec.ofChange matchTilesMatchSpecSpec)

/-- ITS FALSE NEIGHBOUR: 'it returns false'. Refute it at one input. -/
def matchTilesMatchSpecWrong : ChangeSpec := { name := "matchTilesMatchSpec", fn := fun _ => fun
  | [d1, d2, d3] => { results := [.lit (.bool false)], args := [d1, d2, d3] }
  | _ => none }
def MatchTilesMatchSpecWrongFalsely : Prop := matchTilesMatchSpecRow.holds Try.pinned (OpenSpec.ofChange matchTilesMatchSpecWrong)

/-- 'harrierlaw5.MatchTilesAreSeen': WHATEVER THE INPUT: true; the input reads as it did. -/
def matchTilesAreSeenSpec : ChangeSpec := { name := "matchTilesAreSeen", fn := fun _ => fun
  | [d1, d2] => { results := [.lit (.bool true)], args := [d1, d2] }
  | _ => none }
def matchTilesAreSeenRow : OpenClaim := { program := "ytjflbnbofedlkaa", sum := "b5389a3e01a04e903681f80d7065b5a307ce423927e54e9b38285c032b4bce4c", func := "harrier/harrierlaw5.MatchTilesAreSeen", spec := "matchTilesAreSeen", unfollowed := true, recurses := true, named := ["math/bits.divideError", "math/bits.overflowError"], plainKeys := false, apart := false }
def MatchTilesAreSeenSaid : Prop := matchTilesAreSeenRow.holds Try.pinned (OpenSpec.ofChange matchTilesAreSeenSpec)

/-- ITS FALSE NEIGHBOUR: 'it returns false'. Refute it at one input. -/
def matchTilesAreSeenWrong : ChangeSpec := { name := "matchTilesAreSeen", fn := fun _ => fun
  | [d1, d2] => { results := [.lit (.bool false)], args := [d1, d2] }
  | _ => none }
def MatchTilesAreSeenWrongFalsely : Prop := matchTilesAreSeenRow.holds Try.pinned (OpenSpec.ofChange matchTilesAreSeenWrong)

/-- 'harrierlaw5.MatchBoardsMatchSpec': WHATEVER THE INPUT: true; the input reads as it did. -/
def matchBoardsMatchSpecSpec : ChangeSpec := { name := "matchBoardsMatchSpec", fn := fun _ => fun
  | [d] => { results := [.lit (.bool true)], args := [d] }
  | _ => none }
def matchBoardsMatchSpecRow : OpenClaim := { program := "ytjflbnbofedlkaa", sum := "b5389a3e01a04e903681f80d7065b5a307ce423927e54e9b38285c032b4bce4c", func := "harrier/harrierlaw5.MatchBoardsMatchSpec", spec := "matchBoardsMatchSpec", inPlace := ["internal/bytealg.abigen_runtime_cmpstring"], unfollowed := true, recurses := true, named := ["math/bits.divideError", "math/bits.overflowError"], plainKeys := false, apart := false }
def MatchBoardsMatchSpecSaid : Prop := matchBoardsMatchSpecRow.holds Try.pinned (OpenSpec.ofChange matchBoardsMatchSpecSpec)

/-- ITS FALSE NEIGHBOUR: 'it returns false'. Refute it at one input. -/
def matchBoardsMatchSpecWrong : ChangeSpec := { name := "matchBoardsMatchSpec", fn := fun _ => fun
  | [d] => { results := [.lit (.bool false)], args := [d] }
  | _ => none }
def MatchBoardsMatchSpecWrongFalsely : Prop := matchBoardsMatchSpecRow.holds Try.pinned (OpenSpec.ofChange matchBoardsMatchSpecWrong)

/-- 'harrierlaw5.MatchSquaresMatchSpec': WHATEVER THE INPUT: true; the input reads as it did. -/
def matchSquaresMatchSpecSpec : ChangeSpec := { name := "matchSquaresMatchSpec", fn := fun _ => fun
  | [d1, d2] => { results := [.lit (.bool true)], args := [d1, d2] }
  | _ => none }
def matchSquaresMatchSpecRow : OpenClaim := { program := "ytjflbnbofedlkaa", sum := "b5389a3e01a04e903681f80d7065b5a307ce423927e54e9b38285c032b4bce4c", func := "harrier/harrierlaw5.MatchSquaresMatchSpec", spec := "matchSquaresMatchSpec", unfollowed := true, recurses := true, named := ["math/bits.divideError", "math/bits.overflowError"], plainKeys := false, apart := false }
def MatchSquaresMatchSpecSaid : Prop := matchSquaresMatchSpecRow.holds Try.pinned (OpenSpec.ofChange matchSquaresMatchSpecSpec)

/-- ITS FALSE NEIGHBOUR: 'it returns false'. Refute it at one input. -/
def matchSquaresMatchSpecWrong : ChangeSpec := { name := "matchSquaresMatchSpec", fn := fun _ => fun
  | [d1, d2] => { results := [.lit (.bool false)], args := [d1, d2] }
  | _ => none }
def MatchSquaresMatchSpecWrongFalsely : Prop := matchSquaresMatchSpecRow.holds Try.pinned (OpenSpec.ofChange matchSquaresMatchSpecWrong)

/- THE SECOND FORM. 'bulk': how many values and letters a reading holds, each counted each time it is reached (what is shared counts as often as it is met; a slice's spare places count too). A statement '..UptoSaid' is the law's where the arguments, and the package variables that the reading takes, are together of bulk at most 1048576: NARROWER than '..Said'. Prove '..Said' where nothing that the law and all that it calls make is longer than what came in: it says more and counts as full. Else prove '..UptoSaid'. A law counts once. -/
mutual
def uptoBulk {H : Type} : DataW H → Nat
  | .lit (.string bytes) => bytes.length + 1
  | .lit _ => 1
  | .nil => 1
  | .ptr d => uptoBulk d + 1
  | .slice elems spare => uptoBulkAll elems + uptoBulkAll spare + 1
  | .agg parts => uptoBulkAll parts + 1
  | .iface _ d => uptoBulk d + 1
  | .map entries => uptoBulkEntries entries + 1
  | .held _ => 1
def uptoBulkAll {H : Type} : List (DataW H) → Nat
  | [] => 0
  | d :: r => uptoBulk d + uptoBulkAll r
def uptoBulkEntries {H : Type} : List (Lit × DataW H) → Nat
  | [] => 0
  | x :: r => uptoBulkEntry x + uptoBulkEntries r
def uptoBulkEntry {H : Type} : Lit × DataW H → Nat
  | (.string bytes, d) => bytes.length + uptoBulk d + 1
  | (_, d) => uptoBulk d + 1
 end
def uptoSmall : (H : Type) → List (DataW H) → Bool := fun _ ds => decide (uptoBulkAll ds ≤ 1048576)
def OpenSpec.upto (s : _root_.Go.ChangeSpec) : _root_.Go.OpenSpec := { _root_.Go.OpenSpec.ofChange s with cond := some uptoSmall }

/-- 'harrierlaw5.MatchPlacesMatchSpec', WHERE WHAT IT READS IS OF BULK AT MOST 1048576: true; the input reads as it did. -/
def matchPlacesMatchSpecUptoRow : OpenClaim := { program := "ytjflbnbofedlkaa", sum := "b5389a3e01a04e903681f80d7065b5a307ce423927e54e9b38285c032b4bce4c", func := "harrier/harrierlaw5.MatchPlacesMatchSpec", spec := "matchPlacesMatchSpec", inPlace := ["internal/bytealg.abigen_runtime_cmpstring"], unfollowed := true, recurses := true, named := ["math/bits.divideError", "math/bits.overflowError"], plainKeys := false, apart := false, narrowed := true }
def MatchPlacesMatchSpecUptoSaid : Prop := matchPlacesMatchSpecUptoRow.holds Try.pinned (OpenSpec.upto matchPlacesMatchSpecSpec)

/-- 'harrierlaw5.MatchTilesMatchSpec', WHERE WHAT IT READS IS OF BULK AT MOST 1048576: true; the input reads as it did. -/
def matchTilesMatchSpecUptoRow : OpenClaim := { program := "ytjflbnbofedlkaa", sum := "b5389a3e01a04e903681f80d7065b5a307ce423927e54e9b38285c032b4bce4c", func := "harrier/harrierlaw5.MatchTilesMatchSpec", spec := "matchTilesMatchSpec", unfollowed := true, recurses := true, named := ["math/bits.divideError", "math/bits.overflowError"], plainKeys := false, apart := false, narrowed := true }
def MatchTilesMatchSpecUptoSaid : Prop := matchTilesMatchSpecUptoRow.holds Try.pinned (OpenSpec.upto matchTilesMatchSpecSpec)

/-- 'harrierlaw5.MatchTilesAreSeen', WHERE WHAT IT READS IS OF BULK AT MOST 1048576: true; the input reads as it did. -/
def matchTilesAreSeenUptoRow : OpenClaim := { program := "ytjflbnbofedlkaa", sum := "b5389a3e01a04e903681f80d7065b5a307ce423927e54e9b38285c032b4bce4c", func := "harrier/harrierlaw5.MatchTilesAreSeen", spec := "matchTilesAreSeen", unfollowed := true, recurses := true, named := ["math/bits.divideError", "math/bits.overflowError"], plainKeys := false, apart := false, narrowed := true }
def MatchTilesAreSeenUptoSaid : Prop := matchTilesAreSeenUptoRow.holds Try.pinned (OpenSpec.upto matchTilesAreSeenSpec)

/-- 'harrierlaw5.MatchBoardsMatchSpec', WHERE WHAT IT READS IS OF BULK AT MOST 1048576: true; the input reads as it did. -/
def matchBoardsMatchSpecUptoRow : OpenClaim := { program := "ytjflbnbofedlkaa", sum := "b5389a3e01a04e903681f80d7065b5a307ce423927e54e9b38285c032b4bce4c", func := "harrier/harrierlaw5.MatchBoardsMatchSpec", spec := "matchBoardsMatchSpec", inPlace := ["internal/bytealg.abigen_runtime_cmpstring"], unfollowed := true, recurses := true, named := ["math/bits.divideError", "math/bits.overflowError"], plainKeys := false, apart := false, narrowed := true }
def MatchBoardsMatchSpecUptoSaid : Prop := matchBoardsMatchSpecUptoRow.holds Try.pinned (OpenSpec.upto matchBoardsMatchSpecSpec)

/-- 'harrierlaw5.MatchSquaresMatchSpec', WHERE WHAT IT READS IS OF BULK AT MOST 1048576: true; the input reads as it did. -/
def matchSquaresMatchSpecUptoRow : OpenClaim := { program := "ytjflbnbofedlkaa", sum := "b5389a3e01a04e903681f80d7065b5a307ce423927e54e9b38285c032b4bce4c", func := "harrier/harrierlaw5.MatchSquaresMatchSpec", spec := "matchSquaresMatchSpec", unfollowed := true, recurses := true, named := ["math/bits.divideError", "math/bits.overflowError"], plainKeys := false, apart := false, narrowed := true }
def MatchSquaresMatchSpecUptoSaid : Prop := matchSquaresMatchSpecUptoRow.holds Try.pinned (OpenSpec.upto matchSquaresMatchSpecSpec)

end Rows
end Go.Proofs.Ytjflbnbofedlkaa
