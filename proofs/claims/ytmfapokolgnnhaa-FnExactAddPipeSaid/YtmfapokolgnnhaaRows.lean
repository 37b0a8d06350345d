/-
  No cell of these rows narrows 'for every input' (looked for: loops, veiled, ifaces, maps, wideKeys, modest, calm, conditions, laid).
  DERIVED. THE GIVEN ROWS OF THIS SEAT. 10 by the template 'for every input the law returns true; each argument reads behind the call as it read before'; 0 by the template 'total and deterministic' (their statements: YtmfapokolgnnhaaTotals.lean).
  GIVEN WITH THE SEED: the statements are not yours to turn. If you find one false, say at which input.
  Laid BY PROGRAM, IN A SANDBOX (cutbox-rows.mjs): the forced cells as the released guide's own fill.sh prints them over the translation 44ba6ad6bdce6a38… (all of the seat's roots in one cut). By AI agents, Wed Nov 11 2026. No macro, syntax, notation, axiom, sorry.
-/
import Derived.Test.YtmfapokolgnnhaaChecked
import GoSem.Claim
import GoSem.ClaimJoined
import GoSem.ClaimMapViews
import Derived.JoinedTies
import Derived.KernelRfl
namespace Go.Proofs.Ytmfapokolgnnhaa
/- THE CELL 'sum', in the pinned program and in every row, IS THE sha256 OF THE DUMP (.gsa) THAT YtmfapokolgnnhaaProg.lean LOADS. Nothing in Lean hashes anything: it is a label: what it is worth is what the hold of that sum in a sandbox is worth. -/
noncomputable def Try.pinned : Pinned := { name := "ytmfapokolgnnhaa", sum := "44ba6ad6bdce6a386625fdda9e65fddcc59042826c770ba28f39291a0de50c1a", checked := Try.checked }
namespace Rows
def none {H : Type} : Left H := { results := [], args := [] }

/-- 'laws.FnExactIsValidNetwork': WHATEVER THE INPUT: true; the input reads as it did. -/
def fnExactIsValidNetworkSpec : ChangeSpec := { name := "fnExactIsValidNetwork", fn := fun _ => fun
  | [d] => { results := [.lit (.bool true)], args := [d] }
  | _ => none }
def fnExactIsValidNetworkRow : OpenClaim := { program := "ytmfapokolgnnhaa", sum := "44ba6ad6bdce6a386625fdda9e65fddcc59042826c770ba28f39291a0de50c1a", func := "loop.example/g00853/laws.FnExactIsValidNetwork", spec := "fnExactIsValidNetwork", apart := false }
def FnExactIsValidNetworkSaid : Prop := fnExactIsValidNetworkRow.holds Try.pinned (OpenSpec.ofChange fnExactIsValidNetworkSpec)

/-- ITS FALSE NEIGHBOUR: 'it returns false'. Refute it at one input. -/
def fnExactIsValidNetworkWrong : ChangeSpec := { name := "fnExactIsValidNetwork", fn := fun _ => fun
  | [d] => { results := [.lit (.bool false)], args := [d] }
  | _ => none }
def FnExactIsValidNetworkWrongFalsely : Prop := fnExactIsValidNetworkRow.holds Try.pinned (OpenSpec.ofChange fnExactIsValidNetworkWrong)

/-- 'laws.FnExactPipesAt': WHATEVER THE INPUT: true; the input reads as it did. -/
def fnExactPipesAtSpec : ChangeSpec := { name := "fnExactPipesAt", fn := fun _ => fun
  | [d1, d2] => { results := [.lit (.bool true)], args := [d1, d2] }
  | _ => none }
def fnExactPipesAtRow : OpenClaim := { program := "ytmfapokolgnnhaa", sum := "44ba6ad6bdce6a386625fdda9e65fddcc59042826c770ba28f39291a0de50c1a", func := "loop.example/g00853/laws.FnExactPipesAt", spec := "fnExactPipesAt", apart := false }
def FnExactPipesAtSaid : Prop := fnExactPipesAtRow.holds Try.pinned (OpenSpec.ofChange fnExactPipesAtSpec)

/-- ITS FALSE NEIGHBOUR: 'it returns false'. Refute it at one input. -/
def fnExactPipesAtWrong : ChangeSpec := { name := "fnExactPipesAt", fn := fun _ => fun
  | [d1, d2] => { results := [.lit (.bool false)], args := [d1, d2] }
  | _ => none }
def FnExactPipesAtWrongFalsely : Prop := fnExactPipesAtRow.holds Try.pinned (OpenSpec.ofChange fnExactPipesAtWrong)

/-- 'laws.FnExactReachedFrom': WHATEVER THE INPUT: true; the input reads as it did. -/
def fnExactReachedFromSpec : ChangeSpec := { name := "fnExactReachedFrom", fn := fun _ => fun
  | [d1, d2] => { results := [.lit (.bool true)], args := [d1, d2] }
  | _ => none }
def fnExactReachedFromRow : OpenClaim := { program := "ytmfapokolgnnhaa", sum := "44ba6ad6bdce6a386625fdda9e65fddcc59042826c770ba28f39291a0de50c1a", func := "loop.example/g00853/laws.FnExactReachedFrom", spec := "fnExactReachedFrom", apart := false }
def FnExactReachedFromSaid : Prop := fnExactReachedFromRow.holds Try.pinned (OpenSpec.ofChange fnExactReachedFromSpec)

/-- ITS FALSE NEIGHBOUR: 'it returns false'. Refute it at one input. -/
def fnExactReachedFromWrong : ChangeSpec := { name := "fnExactReachedFrom", fn := fun _ => fun
  | [d1, d2] => { results := [.lit (.bool false)], args := [d1, d2] }
  | _ => none }
def FnExactReachedFromWrongFalsely : Prop := fnExactReachedFromRow.holds Try.pinned (OpenSpec.ofChange fnExactReachedFromWrong)

/-- 'laws.FnExactNetworkParts': WHATEVER THE INPUT: true; the input reads as it did. -/
def fnExactNetworkPartsSpec : ChangeSpec := { name := "fnExactNetworkParts", fn := fun _ => fun
  | [d] => { results := [.lit (.bool true)], args := [d] }
  | _ => none }
def fnExactNetworkPartsRow : OpenClaim := { program := "ytmfapokolgnnhaa", sum := "44ba6ad6bdce6a386625fdda9e65fddcc59042826c770ba28f39291a0de50c1a", func := "loop.example/g00853/laws.FnExactNetworkParts", spec := "fnExactNetworkParts", apart := false }
def FnExactNetworkPartsSaid : Prop := fnExactNetworkPartsRow.holds Try.pinned (OpenSpec.ofChange fnExactNetworkPartsSpec)

/-- ITS FALSE NEIGHBOUR: 'it returns false'. Refute it at one input. -/
def fnExactNetworkPartsWrong : ChangeSpec := { name := "fnExactNetworkParts", fn := fun _ => fun
  | [d] => { results := [.lit (.bool false)], args := [d] }
  | _ => none }
def FnExactNetworkPartsWrongFalsely : Prop := fnExactNetworkPartsRow.holds Try.pinned (OpenSpec.ofChange fnExactNetworkPartsWrong)

/-- 'laws.FnExactBridgePipes': WHATEVER THE INPUT: true; the input reads as it did. -/
def fnExactBridgePipesSpec : ChangeSpec := { name := "fnExactBridgePipes", fn := fun _ => fun
  | [d] => { results := [.lit (.bool true)], args := [d] }
  | _ => none }
def fnExactBridgePipesRow : OpenClaim := { program := "ytmfapokolgnnhaa", sum := "44ba6ad6bdce6a386625fdda9e65fddcc59042826c770ba28f39291a0de50c1a", func := "loop.example/g00853/laws.FnExactBridgePipes", spec := "fnExactBridgePipes", apart := false }
def FnExactBridgePipesSaid : Prop := fnExactBridgePipesRow.holds Try.pinned (OpenSpec.ofChange fnExactBridgePipesSpec)

/-- ITS FALSE NEIGHBOUR: 'it returns false'. Refute it at one input. -/
def fnExactBridgePipesWrong : ChangeSpec := { name := "fnExactBridgePipes", fn := fun _ => fun
  | [d] => { results := [.lit (.bool false)], args := [d] }
  | _ => none }
def FnExactBridgePipesWrongFalsely : Prop := fnExactBridgePipesRow.holds Try.pinned (OpenSpec.ofChange fnExactBridgePipesWrong)

/-- 'laws.FnExactAddPipe': WHATEVER THE INPUT: true; the input reads as it did. -/
def fnExactAddPipeSpec : ChangeSpec := { name := "fnExactAddPipe", fn := fun _ => fun
  | [d1, d2] => { results := [.lit (.bool true)], args := [d1, d2] }
  | _ => none }
def fnExactAddPipeRow : OpenClaim := { program := "ytmfapokolgnnhaa", sum := "44ba6ad6bdce6a386625fdda9e65fddcc59042826c770ba28f39291a0de50c1a", func := "loop.example/g00853/laws.FnExactAddPipe", spec := "fnExactAddPipe", inPlace := ["slices.overlaps[loop.example/g00853/impl.Pipe]"], apart := false }
def FnExactAddPipeSaid : Prop := fnExactAddPipeRow.holds Try.pinned (OpenSpec.ofChange fnExactAddPipeSpec)

/-- ITS FALSE NEIGHBOUR: 'it returns false'. Refute it at one input. -/
def fnExactAddPipeWrong : ChangeSpec := { name := "fnExactAddPipe", fn := fun _ => fun
  | [d1, d2] => { results := [.lit (.bool false)], args := [d1, d2] }
  | _ => none }
def FnExactAddPipeWrongFalsely : Prop := fnExactAddPipeRow.holds Try.pinned (OpenSpec.ofChange fnExactAddPipeWrong)

/-- 'laws.FnExactRemovePipe': WHATEVER THE INPUT: true; the input reads as it did. -/
def fnExactRemovePipeSpec : ChangeSpec := { name := "fnExactRemovePipe", fn := fun _ => fun
  | [d1, d2] => { results := [.lit (.bool true)], args := [d1, d2] }
  | _ => none }
def fnExactRemovePipeRow : OpenClaim := { program := "ytmfapokolgnnhaa", sum := "44ba6ad6bdce6a386625fdda9e65fddcc59042826c770ba28f39291a0de50c1a", func := "loop.example/g00853/laws.FnExactRemovePipe", spec := "fnExactRemovePipe", unfollowed := true, recurses := true, apart := false }
def FnExactRemovePipeSaid : Prop := fnExactRemovePipeRow.holds Try.pinned (OpenSpec.ofChange fnExactRemovePipeSpec)

/-- ITS FALSE NEIGHBOUR: 'it returns false'. Refute it at one input. -/
def fnExactRemovePipeWrong : ChangeSpec := { name := "fnExactRemovePipe", fn := fun _ => fun
  | [d1, d2] => { results := [.lit (.bool false)], args := [d1, d2] }
  | _ => none }
def FnExactRemovePipeWrongFalsely : Prop := fnExactRemovePipeRow.holds Try.pinned (OpenSpec.ofChange fnExactRemovePipeWrong)

/-- 'laws.FnExactShortestWay': WHATEVER THE INPUT: true; the input reads as it did. -/
def fnExactShortestWaySpec : ChangeSpec := { name := "fnExactShortestWay", fn := fun _ => fun
  | [d1, d2, d3] => { results := [.lit (.bool true)], args := [d1, d2, d3] }
  | _ => none }
def fnExactShortestWayRow : OpenClaim := { program := "ytmfapokolgnnhaa", sum := "44ba6ad6bdce6a386625fdda9e65fddcc59042826c770ba28f39291a0de50c1a", func := "loop.example/g00853/laws.FnExactShortestWay", spec := "fnExactShortestWay", apart := false }
def FnExactShortestWaySaid : Prop := fnExactShortestWayRow.holds Try.pinned (OpenSpec.ofChange fnExactShortestWaySpec)

/-- ITS FALSE NEIGHBOUR: 'it returns false'. Refute it at one input. -/
def fnExactShortestWayWrong : ChangeSpec := { name := "fnExactShortestWay", fn := fun _ => fun
  | [d1, d2, d3] => { results := [.lit (.bool false)], args := [d1, d2, d3] }
  | _ => none }
def FnExactShortestWayWrongFalsely : Prop := fnExactShortestWayRow.holds Try.pinned (OpenSpec.ofChange fnExactShortestWayWrong)

/-- 'laws.FnWays': WHATEVER THE INPUT: true; the input reads as it did. -/
def fnWaysSpec : ChangeSpec := { name := "fnWays", fn := fun _ => fun
  | [d] => { results := [.lit (.bool true)], args := [d] }
  | _ => none }
def fnWaysRow : OpenClaim := { program := "ytmfapokolgnnhaa", sum := "44ba6ad6bdce6a386625fdda9e65fddcc59042826c770ba28f39291a0de50c1a", func := "loop.example/g00853/laws.FnWays", spec := "fnWays", unfollowed := true, recurses := true, apart := false }
def FnWaysSaid : Prop := fnWaysRow.holds Try.pinned (OpenSpec.ofChange fnWaysSpec)

/-- ITS FALSE NEIGHBOUR: 'it returns false'. Refute it at one input. -/
def fnWaysWrong : ChangeSpec := { name := "fnWays", fn := fun _ => fun
  | [d] => { results := [.lit (.bool false)], args := [d] }
  | _ => none }
def FnWaysWrongFalsely : Prop := fnWaysRow.holds Try.pinned (OpenSpec.ofChange fnWaysWrong)

/-- 'laws.FnParts': WHATEVER THE INPUT: true; the input reads as it did. -/
def fnPartsSpec : ChangeSpec := { name := "fnParts", fn := fun _ => fun
  | [d] => { results := [.lit (.bool true)], args := [d] }
  | _ => none }
def fnPartsRow : OpenClaim := { program := "ytmfapokolgnnhaa", sum := "44ba6ad6bdce6a386625fdda9e65fddcc59042826c770ba28f39291a0de50c1a", func := "loop.example/g00853/laws.FnParts", spec := "fnParts", apart := false }
def FnPartsSaid : Prop := fnPartsRow.holds Try.pinned (OpenSpec.ofChange fnPartsSpec)

/-- ITS FALSE NEIGHBOUR: 'it returns false'. Refute it at one input. -/
def fnPartsWrong : ChangeSpec := { name := "fnParts", fn := fun _ => fun
  | [d] => { results := [.lit (.bool false)], args := [d] }
  | _ => none }
def FnPartsWrongFalsely : Prop := fnPartsRow.holds Try.pinned (OpenSpec.ofChange fnPartsWrong)

/- THE SECOND FORM. 'bulk': how many values and letters a reading holds, each counted each time it is reached (what is shared counts as often as it is met; a slice's spare places count too). A statement '..UptoSaid' is the law's where the arguments, and the package variables that the reading takes, are together of bulk at most 1048576: NARROWER than '..Said'. Prove '..Said' where nothing that the law and all that it calls make is longer than what came in: it says more and counts as full. Else prove '..UptoSaid'. A law counts once. -/
mutual
def uptoBulk {H : Type} : DataW H → Nat
  | .lit (.string bytes) => bytes.length + 1
  | .lit _ => 1
  | .nil => 1
  | .ptr d => uptoBulk d + 1
  | .slice elems spare => uptoBulkAll elems + uptoBulkAll spare + 1
  | .agg parts => uptoBulkAll parts + 1
  | .iface _ d => uptoBulk d + 1
  | .map entries => uptoBulkEntries entries + 1
  | .held _ => 1
def uptoBulkAll {H : Type} : List (DataW H) → Nat
  | [] => 0
  | d :: r => uptoBulk d + uptoBulkAll r
def uptoBulkEntries {H : Type} : List (Lit × DataW H) → Nat
  | [] => 0
  | x :: r => uptoBulkEntry x + uptoBulkEntries r
def uptoBulkEntry {H : Type} : Lit × DataW H → Nat
  | (.string bytes, d) => bytes.length + uptoBulk d + 1
  | (_, d) => uptoBulk d + 1
 end
def uptoSmall : (H : Type) → List (DataW H) → Bool := fun _ ds => decide (uptoBulkAll ds ≤ 1048576)
def OpenSpec.upto (s : _root_.Go.ChangeSpec) : _root_.Go.OpenSpec := { _root_.Go.OpenSpec.ofChange s with cond := some uptoSmall }

/-- 'laws.FnExactIsValidNetwork', WHERE WHAT IT READS IS OF BULK AT MOST 1048576: true; the input reads as it did. -/
def fnExactIsValidNetworkUptoRow : OpenClaim := { program := "ytmfapokolgnnhaa", sum := "44ba6ad6bdce6a386625fdda9e65fddcc59042826c770ba28f39291a0de50c1a", func := "loop.example/g00853/laws.FnExactIsValidNetwork", spec := "fnExactIsValidNetwork", apart := false, narrowed := true }
def FnExactIsValidNetworkUptoSaid : Prop := fnExactIsValidNetworkUptoRow.holds Try.pinned (OpenSpec.upto fnExactIsValidNetworkSpec)

/-- 'laws.FnExactPipesAt', WHERE WHAT IT READS IS OF BULK AT MOST 1048576: true; the input reads as it did. -/
def fnExactPipesAtUptoRow : OpenClaim := { program := "ytmfapokolgnnhaa", sum := "44ba6ad6bdce6a386625fdda9e65fddcc59042826c770ba28f39291a0de50c1a", func := "loop.example/g00853/laws.FnExactPipesAt", spec := "fnExactPipesAt", apart := false, narrowed := true }
def FnExactPipesAtUptoSaid : Prop := fnExactPipesAtUptoRow.holds Try.pinned (OpenSpec.upto fnExactPipesAtSpec)

/-- 'laws.FnExactReachedFrom', WHERE WHAT IT READS IS OF BULK AT MOST 1048576: true; the input reads as it did. -/
def fnExactReachedFromUptoRow : OpenClaim := { program := "ytmfapokolgnnhaa", sum := "44ba6ad6bdce6a386625fdda9e65fddcc59042826c770ba28f39291a0de50c1a", func := "loop.example/g00853/laws.FnExactReachedFrom", spec := "fnExactReachedFrom", apart := false, narrowed := true }
def FnExactReachedFromUptoSaid : Prop := fnExactReachedFromUptoRow.holds Try.pinned (OpenSpec.upto fnExactReachedFromSpec)

/-- 'laws.FnExactNetworkParts', WHERE WHAT IT READS IS OF BULK AT MOST 1048576: true; the input reads as it did. -/
def fnExactNetworkPartsUptoRow : OpenClaim := { program := "ytmfapokolgnnhaa", sum := "44ba6ad6bdce6a386625fdda9e65fddcc59042826c770ba28f39291a0de50c1a", func := "loop.example/g00853/laws.FnExactNetworkParts", spec := "fnExactNetworkParts", apart := false, narrowed := true }
def FnExactNetworkPartsUptoSaid : Prop := fnExactNetworkPartsUptoRow.holds Try.pinned (OpenSpec.upto fnExactNetworkPartsSpec)

/-- 'laws.FnExactBridgePipes', WHERE WHAT IT READS IS OF BULK AT MOST 1048576: true; the input reads as it did. -/
def fnExactBridgePipesUptoRow : OpenClaim := { program := "ytmfapokolgnnhaa", sum := "44ba6ad6bdce6a386625fdda9e65fddcc59042826c770ba28f39291a0de50c1a", func := "loop.example/g00853/laws.FnExactBridgePipes", spec := "fnExactBridgePipes", apart := false, narrowed := true }
def FnExactBridgePipesUptoSaid : Prop := fnExactBridgePipesUptoRow.holds Try.pinned (OpenSpec.upto fnExactBridgePipesSpec)

/-- 'laws.FnExactAddPipe', WHERE WHAT IT READS IS OF BULK AT MOST 1048576: true; the input reads as it did. -/
def fnExactAddPipeUptoRow : OpenClaim := { program := "ytmfapokolgnnhaa", sum := "44ba6ad6bdce6a386625fdda9e65fddcc59042826c770ba28f39291a0de50c1a", func := "loop.example/g00853/laws.FnExactAddPipe", spec := "fnExactAddPipe", inPlace := ["slices.overlaps[loop.example/g00853/impl.Pipe]"], apart := false, narrowed := true }
def FnExactAddPipeUptoSaid : Prop := fnExactAddPipeUptoRow.holds Try.pinned (OpenSpec.upto fnExactAddPipeSpec)

/-- 'laws.FnExactRemovePipe', WHERE WHAT IT READS IS OF BULK AT MOST 1048576: true; the input reads as it did. -/
def fnExactRemovePipeUptoRow : OpenClaim := { program := "ytmfapokolgnnhaa", sum := "44ba6ad6bdce6a386625fdda9e65fddcc59042826c770ba28f39291a0de50c1a", func := "loop.example/g00853/laws.FnExactRemovePipe", spec := "fnExactRemovePipe", unfollowed := true, recurses := true, apart := false, narrowed := true }
def FnExactRemovePipeUptoSaid : Prop := fnExactRemovePipeUptoRow.holds Try.pinned (OpenSpec.upto fnExactRemovePipeSpec)

/-- 'laws.FnExactShortestWay', WHERE WHAT IT READS IS OF BULK AT MOST 1048576: true; the input reads as it did. -/
def fnExactShortestWayUptoRow : OpenClaim := { program := "ytmfapokolgnnhaa", sum := "44ba6ad6bdce6a386625fdda9e65fddcc59042826c770ba28f39291a0de50c1a", func := "loop.example/g00853/laws.FnExactShortestWay", spec := "fnExactShortestWay", apart := false, narrowed := true }
def FnExactShortestWayUptoSaid : Prop := fnExactShortestWayUptoRow.holds Try.pinned (OpenSpec.upto fnExactShortestWaySpec)

/-- 'laws.FnWays', WHERE WHAT IT READS IS OF BULK AT MOST 1048576: true; the input reads as it did. -/
def fnWaysUptoRow : OpenClaim := { program := "ytmfapokolgnnhaa", sum := "44ba6ad6bdce6a386625fdda9e65fddcc59042826c770ba28f39291a0de50c1a", func := "loop.example/g00853/laws.FnWays", spec := "fnWays", unfollowed := true, recurses := true, apart := false, narrowed := true }
def FnWaysUptoSaid : Prop := fnWaysUptoRow.holds Try.pinned (OpenSpec.upto fnWaysSpec)

/-- 'laws.FnParts', WHERE WHAT IT READS IS OF BULK AT MOST 1048576: true; the input reads as it did. -/
def fnPartsUptoRow : OpenClaim := { program := "ytmfapokolgnnhaa", sum := "44ba6ad6bdce6a386625fdda9e65fddcc59042826c770ba28f39291a0de50c1a", func := "loop.example/g00853/laws.FnParts", spec := "fnParts", apart := false, narrowed := true }
def FnPartsUptoSaid : Prop := fnPartsUptoRow.holds Try.pinned (OpenSpec.upto fnPartsSpec)

end Rows
end Go.Proofs.Ytmfapokolgnnhaa
