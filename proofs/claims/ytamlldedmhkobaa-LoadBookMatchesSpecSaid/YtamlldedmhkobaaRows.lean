/-
  No cell of these rows narrows 'for every input' (looked for: loops, veiled, ifaces, maps, wideKeys, modest, calm, conditions, laid).
  DERIVED. THE GIVEN ROWS OF THIS SEAT. 9 by the template 'for every input the law returns true; each argument reads behind the call as it read before'; 0 by the template 'total and deterministic' (their statements: YtamlldedmhkobaaTotals.lean).
  GIVEN WITH THE SEED: the statements are not yours to turn. If you find one false, say at which input.
  Laid BY PROGRAM, IN A SANDBOX (cutbox-rows.mjs): the forced cells as the released guide's own fill.sh prints them over the translation d0721dac38ac0c3b… (all of the seat's roots in one cut). By AI agents, Wed Nov 11 2026. No macro, syntax, notation, axiom, sorry.
-/
import Derived.Test.YtamlldedmhkobaaChecked
import GoSem.Claim
import GoSem.ClaimJoined
import GoSem.ClaimMapViews
import Derived.JoinedTies
import Derived.KernelRfl
namespace Go.Proofs.Ytamlldedmhkobaa
/- THE CELL 'sum', in the pinned program and in every row, IS THE sha256 OF THE DUMP (.gsa) THAT YtamlldedmhkobaaProg.lean LOADS. Nothing in Lean hashes anything: it is a label: what it is worth is what the hold of that sum in a sandbox is worth. -/
noncomputable def Try.pinned : Pinned := { name := "ytamlldedmhkobaa", sum := "d0721dac38ac0c3b7766059976444d4662d3a744a4c980fe5580bd6eed685fd1", checked := Try.checked }
namespace Rows
def none {H : Type} : Left H := { results := [], args := [] }

/-- 'harrierlaw6.LoadMoreIsMore': WHATEVER THE INPUT: true; the input reads as it did. -/
def loadMoreIsMoreSpec : ChangeSpec := { name := "loadMoreIsMore", fn := fun _ => fun
  | [d1, d2, d3, d4, d5] => { results := [.lit (.bool true)], args := [d1, d2, d3, d4, d5] }
  | _ => none }
def loadMoreIsMoreRow : OpenClaim := { program := "ytamlldedmhkobaa", sum := "d0721dac38ac0c3b7766059976444d4662d3a744a4c980fe5580bd6eed685fd1", func := "harrier/harrierlaw6.LoadMoreIsMore", spec := "loadMoreIsMore", apart := false }
def LoadMoreIsMoreSaid : Prop := loadMoreIsMoreRow.holds Try.pinned (OpenSpec.ofChange loadMoreIsMoreSpec)

/-- ITS FALSE NEIGHBOUR: 'it returns false'. Refute it at one input. -/
def loadMoreIsMoreWrong : ChangeSpec := { name := "loadMoreIsMore", fn := fun _ => fun
  | [d1, d2, d3, d4, d5] => { results := [.lit (.bool false)], args := [d1, d2, d3, d4, d5] }
  | _ => none }
def LoadMoreIsMoreWrongFalsely : Prop := loadMoreIsMoreRow.holds Try.pinned (OpenSpec.ofChange loadMoreIsMoreWrong)

/-- 'harrierlaw6.LoadSeriesMatchSpec': WHATEVER THE INPUT: true; the input reads as it did. -/
def loadSeriesMatchSpecSpec : ChangeSpec := { name := "loadSeriesMatchSpec", fn := fun _ => fun
  | [d1, d2, d3, d4] => { results := [.lit (.bool true)], args := [d1, d2, d3, d4] }
  | _ => none }
def loadSeriesMatchSpecRow : OpenClaim := { program := "ytamlldedmhkobaa", sum := "d0721dac38ac0c3b7766059976444d4662d3a744a4c980fe5580bd6eed685fd1", func := "harrier/harrierlaw6.LoadSeriesMatchSpec", spec := "loadSeriesMatchSpec", apart := false }
def LoadSeriesMatchSpecSaid : Prop := loadSeriesMatchSpecRow.holds Try.pinned (OpenSpec.ofChange loadSeriesMatchSpecSpec)

/-- ITS FALSE NEIGHBOUR: 'it returns false'. Refute it at one input. -/
def loadSeriesMatchSpecWrong : ChangeSpec := { name := "loadSeriesMatchSpec", fn := fun _ => fun
  | [d1, d2, d3, d4] => { results := [.lit (.bool false)], args := [d1, d2, d3, d4] }
  | _ => none }
def LoadSeriesMatchSpecWrongFalsely : Prop := loadSeriesMatchSpecRow.holds Try.pinned (OpenSpec.ofChange loadSeriesMatchSpecWrong)

/-- 'harrierlaw6.LoadNeededMatchesSpec': WHATEVER THE INPUT: true; the input reads as it did. -/
def loadNeededMatchesSpecSpec : ChangeSpec := { name := "loadNeededMatchesSpec", fn := fun _ => fun
  | [d1, d2, d3, d4] => { results := [.lit (.bool true)], args := [d1, d2, d3, d4] }
  | _ => none }
def loadNeededMatchesSpecRow : OpenClaim := { program := "ytamlldedmhkobaa", sum := "d0721dac38ac0c3b7766059976444d4662d3a744a4c980fe5580bd6eed685fd1", func := "harrier/harrierlaw6.LoadNeededMatchesSpec", spec := "loadNeededMatchesSpec", unfollowed := true, recurses := true, apart := false }
def LoadNeededMatchesSpecSaid : Prop := loadNeededMatchesSpecRow.holds Try.pinned (OpenSpec.ofChange loadNeededMatchesSpecSpec)

/-- ITS FALSE NEIGHBOUR: 'it returns false'. Refute it at one input. -/
def loadNeededMatchesSpecWrong : ChangeSpec := { name := "loadNeededMatchesSpec", fn := fun _ => fun
  | [d1, d2, d3, d4] => { results := [.lit (.bool false)], args := [d1, d2, d3, d4] }
  | _ => none }
def LoadNeededMatchesSpecWrongFalsely : Prop := loadNeededMatchesSpecRow.holds Try.pinned (OpenSpec.ofChange loadNeededMatchesSpecWrong)

/-- 'harrierlaw6.LoadFitMatchesSpec': WHATEVER THE INPUT: true; the input reads as it did. -/
def loadFitMatchesSpecSpec : ChangeSpec := { name := "loadFitMatchesSpec", fn := fun _ => fun
  | [d1, d2, d3] => { results := [.lit (.bool true)], args := [d1, d2, d3] }
  | _ => none }
def loadFitMatchesSpecRow : OpenClaim := { program := "ytamlldedmhkobaa", sum := "d0721dac38ac0c3b7766059976444d4662d3a744a4c980fe5580bd6eed685fd1", func := "harrier/harrierlaw6.LoadFitMatchesSpec", spec := "loadFitMatchesSpec", apart := false }
def LoadFitMatchesSpecSaid : Prop := loadFitMatchesSpecRow.holds Try.pinned (OpenSpec.ofChange loadFitMatchesSpecSpec)

/-- ITS FALSE NEIGHBOUR: 'it returns false'. Refute it at one input. -/
def loadFitMatchesSpecWrong : ChangeSpec := { name := "loadFitMatchesSpec", fn := fun _ => fun
  | [d1, d2, d3] => { results := [.lit (.bool false)], args := [d1, d2, d3] }
  | _ => none }
def LoadFitMatchesSpecWrongFalsely : Prop := loadFitMatchesSpecRow.holds Try.pinned (OpenSpec.ofChange loadFitMatchesSpecWrong)

/-- 'harrierlaw6.LoadBalanceMatchesSpec': WHATEVER THE INPUT: true; the input reads as it did. -/
def loadBalanceMatchesSpecSpec : ChangeSpec := { name := "loadBalanceMatchesSpec", fn := fun _ => fun
  | [d1, d2, d3] => { results := [.lit (.bool true)], args := [d1, d2, d3] }
  | _ => none }
def loadBalanceMatchesSpecRow : OpenClaim := { program := "ytamlldedmhkobaa", sum := "d0721dac38ac0c3b7766059976444d4662d3a744a4c980fe5580bd6eed685fd1", func := "harrier/harrierlaw6.LoadBalanceMatchesSpec", spec := "loadBalanceMatchesSpec", unfollowed := true, recurses := true, apart := false }
def LoadBalanceMatchesSpecSaid : Prop := loadBalanceMatchesSpecRow.holds Try.pinned (OpenSpec.ofChange loadBalanceMatchesSpecSpec)

/-- ITS FALSE NEIGHBOUR: 'it returns false'. Refute it at one input. -/
def loadBalanceMatchesSpecWrong : ChangeSpec := { name := "loadBalanceMatchesSpec", fn := fun _ => fun
  | [d1, d2, d3] => { results := [.lit (.bool false)], args := [d1, d2, d3] }
  | _ => none }
def LoadBalanceMatchesSpecWrongFalsely : Prop := loadBalanceMatchesSpecRow.holds Try.pinned (OpenSpec.ofChange loadBalanceMatchesSpecWrong)

/-- 'harrierlaw6.LoadBookMatchesSpec': WHATEVER THE INPUT: true; the input reads as it did. -/
def loadBookMatchesSpecSpec : ChangeSpec := { name := "loadBookMatchesSpec", fn := fun _ => fun
  | [d1, d2, d3, d4] => { results := [.lit (.bool true)], args := [d1, d2, d3, d4] }
  | _ => none }
def loadBookMatchesSpecRow : OpenClaim := { program := "ytamlldedmhkobaa", sum := "d0721dac38ac0c3b7766059976444d4662d3a744a4c980fe5580bd6eed685fd1", func := "harrier/harrierlaw6.LoadBookMatchesSpec", spec := "loadBookMatchesSpec", apart := false }
def LoadBookMatchesSpecSaid : Prop := loadBookMatchesSpecRow.holds Try.pinned (OpenSpec.ofChange loadBookMatchesSpecSpec)

/-- ITS FALSE NEIGHBOUR: 'it returns false'. Refute it at one input. -/
def loadBookMatchesSpecWrong : ChangeSpec := { name := "loadBookMatchesSpec", fn := fun _ => fun
  | [d1, d2, d3, d4] => { results := [.lit (.bool false)], args := [d1, d2, d3, d4] }
  | _ => none }
def LoadBookMatchesSpecWrongFalsely : Prop := loadBookMatchesSpecRow.holds Try.pinned (OpenSpec.ofChange loadBookMatchesSpecWrong)

/-- 'harrierlaw6.LoadPredictMatchesSpec': WHATEVER THE INPUT: true; the input reads as it did. -/
def loadPredictMatchesSpecSpec : ChangeSpec := { name := "loadPredictMatchesSpec", fn := fun _ => fun
  | [d1, d2, d3, d4] => { results := [.lit (.bool true)], args := [d1, d2, d3, d4] }
  | _ => none }
def loadPredictMatchesSpecRow : OpenClaim := { program := "ytamlldedmhkobaa", sum := "d0721dac38ac0c3b7766059976444d4662d3a744a4c980fe5580bd6eed685fd1", func := "harrier/harrierlaw6.LoadPredictMatchesSpec", spec := "loadPredictMatchesSpec", unfollowed := true, recurses := true, apart := false }
def LoadPredictMatchesSpecSaid : Prop := loadPredictMatchesSpecRow.holds Try.pinned (OpenSpec.ofChange loadPredictMatchesSpecSpec)

/-- ITS FALSE NEIGHBOUR: 'it returns false'. Refute it at one input. -/
def loadPredictMatchesSpecWrong : ChangeSpec := { name := "loadPredictMatchesSpec", fn := fun _ => fun
  | [d1, d2, d3, d4] => { results := [.lit (.bool false)], args := [d1, d2, d3, d4] }
  | _ => none }
def LoadPredictMatchesSpecWrongFalsely : Prop := loadPredictMatchesSpecRow.holds Try.pinned (OpenSpec.ofChange loadPredictMatchesSpecWrong)

/-- 'harrierlaw6.LoadLongerIsSlower': WHATEVER THE INPUT: true; the input reads as it did. -/
def loadLongerIsSlowerSpec : ChangeSpec := { name := "loadLongerIsSlower", fn := fun _ => fun
  | [d1, d2, d3, d4, d5] => { results := [.lit (.bool true)], args := [d1, d2, d3, d4, d5] }
  | _ => none }
def loadLongerIsSlowerRow : OpenClaim := { program := "ytamlldedmhkobaa", sum := "d0721dac38ac0c3b7766059976444d4662d3a744a4c980fe5580bd6eed685fd1", func := "harrier/harrierlaw6.LoadLongerIsSlower", spec := "loadLongerIsSlower", unfollowed := true, recurses := true, apart := false }
def LoadLongerIsSlowerSaid : Prop := loadLongerIsSlowerRow.holds Try.pinned (OpenSpec.ofChange loadLongerIsSlowerSpec)

/-- ITS FALSE NEIGHBOUR: 'it returns false'. Refute it at one input. -/
def loadLongerIsSlowerWrong : ChangeSpec := { name := "loadLongerIsSlower", fn := fun _ => fun
  | [d1, d2, d3, d4, d5] => { results := [.lit (.bool false)], args := [d1, d2, d3, d4, d5] }
  | _ => none }
def LoadLongerIsSlowerWrongFalsely : Prop := loadLongerIsSlowerRow.holds Try.pinned (OpenSpec.ofChange loadLongerIsSlowerWrong)

/-- 'harrierlaw6.LoadLimitsMatchSpec': WHATEVER THE INPUT: true; the input reads as it did. -/
def loadLimitsMatchSpecSpec : ChangeSpec := { name := "loadLimitsMatchSpec", fn := fun _ => fun
  | [d1, d2, d3, d4] => { results := [.lit (.bool true)], args := [d1, d2, d3, d4] }
  | _ => none }
def loadLimitsMatchSpecRow : OpenClaim := { program := "ytamlldedmhkobaa", sum := "d0721dac38ac0c3b7766059976444d4662d3a744a4c980fe5580bd6eed685fd1", func := "harrier/harrierlaw6.LoadLimitsMatchSpec", spec := "loadLimitsMatchSpec", unfollowed := true, recurses := true, apart := false }
def LoadLimitsMatchSpecSaid : Prop := loadLimitsMatchSpecRow.holds Try.pinned (OpenSpec.ofChange loadLimitsMatchSpecSpec)

/-- ITS FALSE NEIGHBOUR: 'it returns false'. Refute it at one input. -/
def loadLimitsMatchSpecWrong : ChangeSpec := { name := "loadLimitsMatchSpec", fn := fun _ => fun
  | [d1, d2, d3, d4] => { results := [.lit (.bool false)], args := [d1, d2, d3, d4] }
  | _ => none }
def LoadLimitsMatchSpecWrongFalsely : Prop := loadLimitsMatchSpecRow.holds Try.pinned (OpenSpec.ofChange loadLimitsMatchSpecWrong)

/- THE SECOND FORM. 'bulk': how many values and letters a reading holds, each counted each time it is reached (what is shared counts as often as it is met; a slice's spare places count too). A statement '..UptoSaid' is the law's where the arguments, and the package variables that the reading takes, are together of bulk at most 1048576: NARROWER than '..Said'. Prove '..Said' where nothing that the law and all that it calls make is longer than what came in: it says more and counts as full. Else prove '..UptoSaid'. A law counts once. -/
mutual
def uptoBulk {H : Type} : DataW H → Nat
  | .lit (.string bytes) => bytes.length + 1
  | .lit _ => 1
  | .nil => 1
  | .ptr d => uptoBulk d + 1
  | .slice elems spare => uptoBulkAll elems + uptoBulkAll spare + 1
  | .agg parts => uptoBulkAll parts + 1
  | .iface _ d => uptoBulk d + 1
  | .map entries => uptoBulkEntries entries + 1
  | .held _ => 1
def uptoBulkAll {H : Type} : List (DataW H) → Nat
  | [] => 0
  | d :: r => uptoBulk d + uptoBulkAll r
def uptoBulkEntries {H : Type} : List (Lit × DataW H) → Nat
  | [] => 0
  | x :: r => uptoBulkEntry x + uptoBulkEntries r
def uptoBulkEntry {H : Type} : Lit × DataW H → Nat
  | (.string bytes, d) => bytes.length + uptoBulk d + 1
  | (_, d) => uptoBulk d + 1
 end
def uptoSmall : (H : Type) → List (DataW H) → Bool := fun _ ds => decide (uptoBulkAll ds ≤ 1048576)
def OpenSpec.upto (s : _root_.Go.ChangeSpec) : _root_.Go.OpenSpec := { _root_.Go.OpenSpec.ofChange s with cond := some uptoSmall }

/-- 'harrierlaw6.LoadMoreIsMore', WHERE WHAT IT READS IS OF BULK AT MOST 1048576: true; the input reads as it did. -/
def loadMoreIsMoreUptoRow : OpenClaim := { program := "ytamlldedmhkobaa", sum := "d0721dac38ac0c3b7766059976444d4662d3a744a4c980fe5580bd6eed685fd1", func := "harrier/harrierlaw6.LoadMoreIsMore", spec := "loadMoreIsMore", apart := false, narrowed := true }
def LoadMoreIsMoreUptoSaid : Prop := loadMoreIsMoreUptoRow.holds Try.pinned (OpenSpec.upto loadMoreIsMoreSpec)

/-- 'harrierlaw6.LoadSeriesMatchSpec', WHERE WHAT IT READS IS OF BULK AT MOST 1048576: true; the input reads as it did. -/
def loadSeriesMatchSpecUptoRow : OpenClaim := { program := "ytamlldedmhkobaa", sum := "d0721dac38ac0c3b7766059976444d4662d3a744a4c980fe5580bd6eed685fd1", func := "harrier/harrierlaw6.LoadSeriesMatchSpec", spec := "loadSeriesMatchSpec", apart := false, narrowed := true }
def LoadSeriesMatchSpecUptoSaid : Prop := loadSeriesMatchSpecUptoRow.holds Try.pinned (OpenSpec.upto loadSeriesMatchSpecSpec)

/-- 'harrierlaw6.LoadNeededMatchesSpec', WHERE WHAT IT READS IS OF BULK AT MOST 1048576: true; the input reads as it did. -/
def loadNeededMatchesSpecUptoRow : OpenClaim := { program := "ytamlldedmhkobaa", sum := "d0721dac38ac0c3b7766059976444d4662d3a744a4c980fe5580bd6eed685fd1", func := "harrier/harrierlaw6.LoadNeededMatchesSpec", spec := "loadNeededMatchesSpec", unfollowed := true, recurses := true, apart := false, narrowed := true }
def LoadNeededMatchesSpecUptoSaid : Prop := loadNeededMatchesSpecUptoRow.holds Try.pinned (OpenSpec.upto loadNeededMatchesSpecSpec)

/-- 'harrierlaw6.LoadFitMatchesSpec', WHERE WHAT IT READS IS OF BULK AT MOST 1048576: true; the input reads as it did. -/
def loadFitMatchesSpecUptoRow : OpenClaim := { program := "ytamlldedmhkobaa", sum := "d0721dac38ac0c3b7766059976444d4662d3a744a4c980fe5580bd6eed685fd1", func := "harrier/harrierlaw6.LoadFitMatchesSpec", spec := "loadFitMatchesSpec", apart := false, narrowed := true }
def LoadFitMatchesSpecUptoSaid : Prop := loadFitMatchesSpecUptoRow.holds Try.pinned (OpenSpec.upto loadFitMatchesSpecSpec)

/-- 'harrierlaw6.LoadBalanceMatchesSpec', WHERE WHAT IT READS IS OF BULK AT MOST 1048576: true; the input reads as it did. -/
def loadBalanceMatchesSpecUptoRow : OpenClaim := { program := "ytamlldedmhkobaa", sum := "d0721dac38ac0c3b7766059976444d4662d3a744a4c980fe5580bd6eed685fd1", func := "harrier/harrierlaw6.LoadBalanceMatchesSpec", spec := "loadBalanceMatchesSpec", unfollowed := true, recurses := true, apart := false, narrowed := true }
def LoadBalanceMatchesSpecUptoSaid : Prop := loadBalanceMatchesSpecUptoRow.holds Try.pinned (OpenSpec.upto loadBalanceMatchesSpecSpec)

/-- 'harrierlaw6.LoadBookMatchesSpec', WHERE WHAT IT READS IS OF BULK AT MOST 1048576: true; the input reads as it did. -/
def loadBookMatchesSpecUptoRow : OpenClaim := { program := "ytamlldedmhkobaa", sum := "d0721dac38ac0c3b7766059976444d4662d3a744a4c980fe5580bd6eed685fd1", func := "harrier/harrierlaw6.LoadBookMatchesSpec", spec := "loadBookMatchesSpec", apart := false, narrowed := true }
def LoadBookMatchesSpecUptoSaid : Prop := loadBookMatchesSpecUptoRow.holds Try.pinned (OpenSpec.upto loadBookMatchesSpecSpec)

/-- 'harrierlaw6.LoadPredictMatchesSpec', WHERE WHAT IT READS IS OF BULK AT MOST 1048576: true; the input reads as it did. -/
def loadPredictMatchesSpecUptoRow : OpenClaim := { program := "ytamlldedmhkobaa", sum := "d0721dac38ac0c3b7766059976444d4662d3a744a4c980fe5580bd6eed685fd1", func := "harrier/harrierlaw6.LoadPredictMatchesSpec", spec := "loadPredictMatchesSpec", unfollowed := true, recurses := true, apart := false, narrowed := true }
def LoadPredictMatchesSpecUptoSaid : Prop := loadPredictMatchesSpecUptoRow.holds Try.pinned (OpenSpec.upto loadPredictMatchesSpecSpec)

/-- 'harrierlaw6.LoadLongerIsSlower', WHERE WHAT IT READS IS OF BULK AT MOST 1048576: true; the input reads as it did. -/
def loadLongerIsSlowerUptoRow : OpenClaim := { program := "ytamlldedmhkobaa", sum := "d0721dac38ac0c3b7766059976444d4662d3a744a4c980fe5580bd6eed685fd1", func := "harrier/harrierlaw6.LoadLongerIsSlower", spec := "loadLongerIsSlower", unfollowed := true, recurses := true, apart := false, narrowed := true }
def LoadLongerIsSlowerUptoSaid : Prop := loadLongerIsSlowerUptoRow.holds Try.pinned (OpenSpec.upto loadLongerIsSlowerSpec)

/-- 'harrierlaw6.LoadLimitsMatchSpec', WHERE WHAT IT READS IS OF BULK AT MOST 1048576: true; the input reads as it did. -/
def loadLimitsMatchSpecUptoRow : OpenClaim := { program := "ytamlldedmhkobaa", sum := "d0721dac38ac0c3b7766059976444d4662d3a744a4c980fe5580bd6eed685fd1", func := "harrier/harrierlaw6.LoadLimitsMatchSpec", spec := "loadLimitsMatchSpec", unfollowed := true, recurses := true, apart := false, narrowed := true }
def LoadLimitsMatchSpecUptoSaid : Prop := loadLimitsMatchSpecUptoRow.holds Try.pinned (OpenSpec.upto loadLimitsMatchSpecSpec)

end Rows
end Go.Proofs.Ytamlldedmhkobaa
