/-
  No cell of these rows narrows 'for every input' (looked for: loops, veiled, ifaces, maps, wideKeys, modest, calm, conditions, laid).
  DERIVED. THE GIVEN ROWS OF THIS SEAT. 11 by the template 'for every input the law returns true; each argument reads behind the call as it read before'; 0 by the template 'total and deterministic' (their statements: YthdmbndndfiidaaTotals.lean).
  GIVEN WITH THE SEED: the statements are not yours to turn. If you find one false, say at which input.
  Laid BY PROGRAM, IN A SANDBOX (cutbox-rows.mjs): the forced cells as the released guide's own fill.sh prints them over the translation 20772603f86c44df… (all of the seat's roots in one cut). By AI agents, Wed Nov 11 2026. No macro, syntax, notation, axiom, sorry.
-/
import Derived.Test.YthdmbndndfiidaaChecked
import GoSem.Claim
import GoSem.ClaimJoined
import GoSem.ClaimMapViews
import Derived.JoinedTies
import Derived.KernelRfl
namespace Go.Proofs.Ythdmbndndfiidaa
/- THE CELL 'sum', in the pinned program and in every row, IS THE sha256 OF THE DUMP (.gsa) THAT YthdmbndndfiidaaProg.lean LOADS. Nothing in Lean hashes anything: it is a label: what it is worth is what the hold of that sum in a sandbox is worth. -/
noncomputable def Try.pinned : Pinned := { name := "ythdmbndndfiidaa", sum := "20772603f86c44df93c663c5927ae66f610b464897b5f4071b39516de66bb9a6", checked := Try.checked }
namespace Rows
def none {H : Type} : Left H := { results := [], args := [] }

/-- 'laws.FnExactIsValidValves': WHATEVER THE INPUT: true; the input reads as it did. -/
def fnExactIsValidValvesSpec : ChangeSpec := { name := "fnExactIsValidValves", fn := fun _ => fun
  | [d1, d2] => { results := [.lit (.bool true)], args := [d1, d2] }
  | _ => none }
def fnExactIsValidValvesRow : OpenClaim := { program := "ythdmbndndfiidaa", sum := "20772603f86c44df93c663c5927ae66f610b464897b5f4071b39516de66bb9a6", func := "loop.example/g00853/laws.FnExactIsValidValves", spec := "fnExactIsValidValves", unfollowed := true, recurses := true, apart := false }
def FnExactIsValidValvesSaid : Prop := fnExactIsValidValvesRow.holds Try.pinned (OpenSpec.ofChange fnExactIsValidValvesSpec)

/-- ITS FALSE NEIGHBOUR: 'it returns false'. Refute it at one input. -/
def fnExactIsValidValvesWrong : ChangeSpec := { name := "fnExactIsValidValves", fn := fun _ => fun
  | [d1, d2] => { results := [.lit (.bool false)], args := [d1, d2] }
  | _ => none }
def FnExactIsValidValvesWrongFalsely : Prop := fnExactIsValidValvesRow.holds Try.pinned (OpenSpec.ofChange fnExactIsValidValvesWrong)

/-- 'laws.FnExactSegmentOfPipe': WHATEVER THE INPUT: true; the input reads as it did. -/
def fnExactSegmentOfPipeSpec : ChangeSpec := { name := "fnExactSegmentOfPipe", fn := fun _ => fun
  | [d1, d2, d3] => { results := [.lit (.bool true)], args := [d1, d2, d3] }
  | _ => none }
def fnExactSegmentOfPipeRow : OpenClaim := { program := "ythdmbndndfiidaa", sum := "20772603f86c44df93c663c5927ae66f610b464897b5f4071b39516de66bb9a6", func := "loop.example/g00853/laws.FnExactSegmentOfPipe", spec := "fnExactSegmentOfPipe", unfollowed := true, recurses := true, apart := false }
def FnExactSegmentOfPipeSaid : Prop := fnExactSegmentOfPipeRow.holds Try.pinned (OpenSpec.ofChange fnExactSegmentOfPipeSpec)

/-- ITS FALSE NEIGHBOUR: 'it returns false'. Refute it at one input. -/
def fnExactSegmentOfPipeWrong : ChangeSpec := { name := "fnExactSegmentOfPipe", fn := fun _ => fun
  | [d1, d2, d3] => { results := [.lit (.bool false)], args := [d1, d2, d3] }
  | _ => none }
def FnExactSegmentOfPipeWrongFalsely : Prop := fnExactSegmentOfPipeRow.holds Try.pinned (OpenSpec.ofChange fnExactSegmentOfPipeWrong)

/-- 'laws.FnExactSegmentOfNode': WHATEVER THE INPUT: true; the input reads as it did. -/
def fnExactSegmentOfNodeSpec : ChangeSpec := { name := "fnExactSegmentOfNode", fn := fun _ => fun
  | [d1, d2, d3] => { results := [.lit (.bool true)], args := [d1, d2, d3] }
  | _ => none }
def fnExactSegmentOfNodeRow : OpenClaim := { program := "ythdmbndndfiidaa", sum := "20772603f86c44df93c663c5927ae66f610b464897b5f4071b39516de66bb9a6", func := "loop.example/g00853/laws.FnExactSegmentOfNode", spec := "fnExactSegmentOfNode", unfollowed := true, recurses := true, apart := false }
def FnExactSegmentOfNodeSaid : Prop := fnExactSegmentOfNodeRow.holds Try.pinned (OpenSpec.ofChange fnExactSegmentOfNodeSpec)

/-- ITS FALSE NEIGHBOUR: 'it returns false'. Refute it at one input. -/
def fnExactSegmentOfNodeWrong : ChangeSpec := { name := "fnExactSegmentOfNode", fn := fun _ => fun
  | [d1, d2, d3] => { results := [.lit (.bool false)], args := [d1, d2, d3] }
  | _ => none }
def FnExactSegmentOfNodeWrongFalsely : Prop := fnExactSegmentOfNodeRow.holds Try.pinned (OpenSpec.ofChange fnExactSegmentOfNodeWrong)

/-- 'laws.FnExactCountSegments': WHATEVER THE INPUT: true; the input reads as it did. -/
def fnExactCountSegmentsSpec : ChangeSpec := { name := "fnExactCountSegments", fn := fun _ => fun
  | [d1, d2] => { results := [.lit (.bool true)], args := [d1, d2] }
  | _ => none }
def fnExactCountSegmentsRow : OpenClaim := { program := "ythdmbndndfiidaa", sum := "20772603f86c44df93c663c5927ae66f610b464897b5f4071b39516de66bb9a6", func := "loop.example/g00853/laws.FnExactCountSegments", spec := "fnExactCountSegments", unfollowed := true, recurses := true, apart := false }
def FnExactCountSegmentsSaid : Prop := fnExactCountSegmentsRow.holds Try.pinned (OpenSpec.ofChange fnExactCountSegmentsSpec)

/-- ITS FALSE NEIGHBOUR: 'it returns false'. Refute it at one input. -/
def fnExactCountSegmentsWrong : ChangeSpec := { name := "fnExactCountSegments", fn := fun _ => fun
  | [d1, d2] => { results := [.lit (.bool false)], args := [d1, d2] }
  | _ => none }
def FnExactCountSegmentsWrongFalsely : Prop := fnExactCountSegmentsRow.holds Try.pinned (OpenSpec.ofChange fnExactCountSegmentsWrong)

/-- 'laws.FnExactValvesAround': WHATEVER THE INPUT: true; the input reads as it did. -/
def fnExactValvesAroundSpec : ChangeSpec := { name := "fnExactValvesAround", fn := fun _ => fun
  | [d1, d2, d3] => { results := [.lit (.bool true)], args := [d1, d2, d3] }
  | _ => none }
def fnExactValvesAroundRow : OpenClaim := { program := "ythdmbndndfiidaa", sum := "20772603f86c44df93c663c5927ae66f610b464897b5f4071b39516de66bb9a6", func := "loop.example/g00853/laws.FnExactValvesAround", spec := "fnExactValvesAround", unfollowed := true, recurses := true, apart := false }
def FnExactValvesAroundSaid : Prop := fnExactValvesAroundRow.holds Try.pinned (OpenSpec.ofChange fnExactValvesAroundSpec)

/-- ITS FALSE NEIGHBOUR: 'it returns false'. Refute it at one input. -/
def fnExactValvesAroundWrong : ChangeSpec := { name := "fnExactValvesAround", fn := fun _ => fun
  | [d1, d2, d3] => { results := [.lit (.bool false)], args := [d1, d2, d3] }
  | _ => none }
def FnExactValvesAroundWrongFalsely : Prop := fnExactValvesAroundRow.holds Try.pinned (OpenSpec.ofChange fnExactValvesAroundWrong)

/-- 'laws.FnExactTurnValve': WHATEVER THE INPUT: true; the input reads as it did. -/
def fnExactTurnValveSpec : ChangeSpec := { name := "fnExactTurnValve", fn := fun _ => fun
  | [d1, d2, d3, d4] => { results := [.lit (.bool true)], args := [d1, d2, d3, d4] }
  | _ => none }
def fnExactTurnValveRow : OpenClaim := { program := "ythdmbndndfiidaa", sum := "20772603f86c44df93c663c5927ae66f610b464897b5f4071b39516de66bb9a6", func := "loop.example/g00853/laws.FnExactTurnValve", spec := "fnExactTurnValve", unfollowed := true, recurses := true, apart := false }
def FnExactTurnValveSaid : Prop := fnExactTurnValveRow.holds Try.pinned (OpenSpec.ofChange fnExactTurnValveSpec)

/-- ITS FALSE NEIGHBOUR: 'it returns false'. Refute it at one input. -/
def fnExactTurnValveWrong : ChangeSpec := { name := "fnExactTurnValve", fn := fun _ => fun
  | [d1, d2, d3, d4] => { results := [.lit (.bool false)], args := [d1, d2, d3, d4] }
  | _ => none }
def FnExactTurnValveWrongFalsely : Prop := fnExactTurnValveRow.holds Try.pinned (OpenSpec.ofChange fnExactTurnValveWrong)

/-- 'laws.FnExactDryNodes': WHATEVER THE INPUT: true; the input reads as it did. -/
def fnExactDryNodesSpec : ChangeSpec := { name := "fnExactDryNodes", fn := fun _ => fun
  | [d1, d2, d3] => { results := [.lit (.bool true)], args := [d1, d2, d3] }
  | _ => none }
def fnExactDryNodesRow : OpenClaim := { program := "ythdmbndndfiidaa", sum := "20772603f86c44df93c663c5927ae66f610b464897b5f4071b39516de66bb9a6", func := "loop.example/g00853/laws.FnExactDryNodes", spec := "fnExactDryNodes", unfollowed := true, recurses := true, apart := false }
def FnExactDryNodesSaid : Prop := fnExactDryNodesRow.holds Try.pinned (OpenSpec.ofChange fnExactDryNodesSpec)

/-- ITS FALSE NEIGHBOUR: 'it returns false'. Refute it at one input. -/
def fnExactDryNodesWrong : ChangeSpec := { name := "fnExactDryNodes", fn := fun _ => fun
  | [d1, d2, d3] => { results := [.lit (.bool false)], args := [d1, d2, d3] }
  | _ => none }
def FnExactDryNodesWrongFalsely : Prop := fnExactDryNodesRow.holds Try.pinned (OpenSpec.ofChange fnExactDryNodesWrong)

/-- 'laws.FnExactDryPipes': WHATEVER THE INPUT: true; the input reads as it did. -/
def fnExactDryPipesSpec : ChangeSpec := { name := "fnExactDryPipes", fn := fun _ => fun
  | [d1, d2, d3] => { results := [.lit (.bool true)], args := [d1, d2, d3] }
  | _ => none }
def fnExactDryPipesRow : OpenClaim := { program := "ythdmbndndfiidaa", sum := "20772603f86c44df93c663c5927ae66f610b464897b5f4071b39516de66bb9a6", func := "loop.example/g00853/laws.FnExactDryPipes", spec := "fnExactDryPipes", unfollowed := true, recurses := true, apart := false }
def FnExactDryPipesSaid : Prop := fnExactDryPipesRow.holds Try.pinned (OpenSpec.ofChange fnExactDryPipesSpec)

/-- ITS FALSE NEIGHBOUR: 'it returns false'. Refute it at one input. -/
def fnExactDryPipesWrong : ChangeSpec := { name := "fnExactDryPipes", fn := fun _ => fun
  | [d1, d2, d3] => { results := [.lit (.bool false)], args := [d1, d2, d3] }
  | _ => none }
def FnExactDryPipesWrongFalsely : Prop := fnExactDryPipesRow.holds Try.pinned (OpenSpec.ofChange fnExactDryPipesWrong)

/-- 'laws.FnExactNeedlessValves': WHATEVER THE INPUT: true; the input reads as it did. -/
def fnExactNeedlessValvesSpec : ChangeSpec := { name := "fnExactNeedlessValves", fn := fun _ => fun
  | [d1, d2] => { results := [.lit (.bool true)], args := [d1, d2] }
  | _ => none }
def fnExactNeedlessValvesRow : OpenClaim := { program := "ythdmbndndfiidaa", sum := "20772603f86c44df93c663c5927ae66f610b464897b5f4071b39516de66bb9a6", func := "loop.example/g00853/laws.FnExactNeedlessValves", spec := "fnExactNeedlessValves", unfollowed := true, recurses := true, apart := false }
def FnExactNeedlessValvesSaid : Prop := fnExactNeedlessValvesRow.holds Try.pinned (OpenSpec.ofChange fnExactNeedlessValvesSpec)

/-- ITS FALSE NEIGHBOUR: 'it returns false'. Refute it at one input. -/
def fnExactNeedlessValvesWrong : ChangeSpec := { name := "fnExactNeedlessValves", fn := fun _ => fun
  | [d1, d2] => { results := [.lit (.bool false)], args := [d1, d2] }
  | _ => none }
def FnExactNeedlessValvesWrongFalsely : Prop := fnExactNeedlessValvesRow.holds Try.pinned (OpenSpec.ofChange fnExactNeedlessValvesWrong)

/-- 'laws.FnSegments': WHATEVER THE INPUT: true; the input reads as it did. -/
def fnSegmentsSpec : ChangeSpec := { name := "fnSegments", fn := fun _ => fun
  | [d] => { results := [.lit (.bool true)], args := [d] }
  | _ => none }
def fnSegmentsRow : OpenClaim := { program := "ythdmbndndfiidaa", sum := "20772603f86c44df93c663c5927ae66f610b464897b5f4071b39516de66bb9a6", func := "loop.example/g00853/laws.FnSegments", spec := "fnSegments", unfollowed := true, recurses := true, apart := false }
def FnSegmentsSaid : Prop := fnSegmentsRow.holds Try.pinned (OpenSpec.ofChange fnSegmentsSpec)

/-- ITS FALSE NEIGHBOUR: 'it returns false'. Refute it at one input. -/
def fnSegmentsWrong : ChangeSpec := { name := "fnSegments", fn := fun _ => fun
  | [d] => { results := [.lit (.bool false)], args := [d] }
  | _ => none }
def FnSegmentsWrongFalsely : Prop := fnSegmentsRow.holds Try.pinned (OpenSpec.ofChange fnSegmentsWrong)

/-- 'laws.FnValves': WHATEVER THE INPUT: true; the input reads as it did. -/
def fnValvesSpec : ChangeSpec := { name := "fnValves", fn := fun _ => fun
  | [d] => { results := [.lit (.bool true)], args := [d] }
  | _ => none }
def fnValvesRow : OpenClaim := { program := "ythdmbndndfiidaa", sum := "20772603f86c44df93c663c5927ae66f610b464897b5f4071b39516de66bb9a6", func := "loop.example/g00853/laws.FnValves", spec := "fnValves", unfollowed := true, recurses := true, apart := false }
def FnValvesSaid : Prop := fnValvesRow.holds Try.pinned (OpenSpec.ofChange fnValvesSpec)

/-- ITS FALSE NEIGHBOUR: 'it returns false'. Refute it at one input. -/
def fnValvesWrong : ChangeSpec := { name := "fnValves", fn := fun _ => fun
  | [d] => { results := [.lit (.bool false)], args := [d] }
  | _ => none }
def FnValvesWrongFalsely : Prop := fnValvesRow.holds Try.pinned (OpenSpec.ofChange fnValvesWrong)

/- THE SECOND FORM. 'bulk': how many values and letters a reading holds, each counted each time it is reached (what is shared counts as often as it is met; a slice's spare places count too). A statement '..UptoSaid' is the law's where the arguments, and the package variables that the reading takes, are together of bulk at most 1048576: NARROWER than '..Said'. Prove '..Said' where nothing that the law and all that it calls make is longer than what came in: it says more and counts as full. Else prove '..UptoSaid'. A law counts once. -/
mutual
def uptoBulk {H : Type} : DataW H → Nat
  | .lit (.string bytes) => bytes.length + 1
  | .lit _ => 1
  | .nil => 1
  | .ptr d => uptoBulk d + 1
  | .slice elems spare => uptoBulkAll elems + uptoBulkAll spare + 1
  | .agg parts => uptoBulkAll parts + 1
  | .iface _ d => uptoBulk d + 1
  | .map entries => uptoBulkEntries entries + 1
  | .held _ => 1
def uptoBulkAll {H : Type} : List (DataW H) → Nat
  | [] => 0
  | d :: r => uptoBulk d + uptoBulkAll r
def uptoBulkEntries {H : Type} : List (Lit × DataW H) → Nat
  | [] => 0
  | x :: r => uptoBulkEntry x + uptoBulkEntries r
def uptoBulkEntry {H : Type} : Lit × DataW H → Nat
  | (.string bytes, d) => bytes.length + uptoBulk d + 1
  | (_, d) => uptoBulk d + 1
 end
def uptoSmall : (H : Type) → List (DataW H) → Bool := fun _ ds => decide (uptoBulkAll ds ≤ 1048576)
def OpenSpec.upto (s : _root_.Go.ChangeSpec) : _root_.Go.OpenSpec := { _root_.Go.OpenSpec.ofChange s with cond := some uptoSmall }

/-- 'laws.FnExactIsValidValves', WHERE WHAT IT READS IS OF BULK AT MOST 1048576: true; the input reads as it did. -/
def fnExactIsValidValvesUptoRow : OpenClaim := { program := "ythdmbndndfiidaa", sum := "20772603f86c44df93c663c5927ae66f610b464897b5f4071b39516de66bb9a6", func := "loop.example/g00853/laws.FnExactIsValidValves", spec := "fnExactIsValidValves", unfollowed := true, recurses := true, apart := false, narrowed := true }
def FnExactIsValidValvesUptoSaid : Prop := fnExactIsValidValvesUptoRow.holds Try.pinned (OpenSpec.upto fnExactIsValidValvesSpec)

/-- 'laws.FnExactSegmentOfPipe', WHERE WHAT IT READS IS OF BULK AT MOST 1048576: true; the input reads as it did. -/
def fnExactSegmentOfPipeUptoRow : OpenClaim := { program := "ythdmbndndfiidaa", sum := "20772603f86c44df93c663c5927ae66f610b464897b5f4071b39516de66bb9a6", func := "loop.example/g00853/laws.FnExactSegmentOfPipe", spec := "fnExactSegmentOfPipe", unfollowed := true, recurses := true, apart := false, narrowed := true }
def FnExactSegmentOfPipeUptoSaid : Prop := fnExactSegmentOfPipeUptoRow.holds Try.pinned (OpenSpec.upto fnExactSegmentOfPipeSpec)

/-- 'laws.FnExactSegmentOfNode', WHERE WHAT IT READS IS OF BULK AT MOST 1048576: true; the input reads as it did. -/
def fnExactSegmentOfNodeUptoRow : OpenClaim := { program := "ythdmbndndfiidaa", sum := "20772603f86c44df93c663c5927ae66f610b464897b5f4071b39516de66bb9a6", func := "loop.example/g00853/laws.FnExactSegmentOfNode", spec := "fnExactSegmentOfNode", unfollowed := true, recurses := true, apart := false, narrowed := true }
def FnExactSegmentOfNodeUptoSaid : Prop := fnExactSegmentOfNodeUptoRow.holds Try.pinned (OpenSpec.upto fnExactSegmentOfNodeSpec)

/-- 'laws.FnExactCountSegments', WHERE WHAT IT READS IS OF BULK AT MOST 1048576: true; the input reads as it did. -/
def fnExactCountSegmentsUptoRow : OpenClaim := { program := "ythdmbndndfiidaa", sum := "20772603f86c44df93c663c5927ae66f610b464897b5f4071b39516de66bb9a6", func := "loop.example/g00853/laws.FnExactCountSegments", spec := "fnExactCountSegments", unfollowed := true, recurses := true, apart := false, narrowed := true }
def FnExactCountSegmentsUptoSaid : Prop := fnExactCountSegmentsUptoRow.holds Try.pinned (OpenSpec.upto fnExactCountSegmentsSpec)

/-- 'laws.FnExactValvesAround', WHERE WHAT IT READS IS OF BULK AT MOST 1048576: true; the input reads as it did. -/
def fnExactValvesAroundUptoRow : OpenClaim := { program := "ythdmbndndfiidaa", sum := "20772603f86c44df93c663c5927ae66f610b464897b5f4071b39516de66bb9a6", func := "loop.example/g00853/laws.FnExactValvesAround", spec := "fnExactValvesAround", unfollowed := true, recurses := true, apart := false, narrowed := true }
def FnExactValvesAroundUptoSaid : Prop := fnExactValvesAroundUptoRow.holds Try.pinned (OpenSpec.upto fnExactValvesAroundSpec)

/-- 'laws.FnExactTurnValve', WHERE WHAT IT READS IS OF BULK AT MOST 1048576: true; the input reads as it did. -/
def fnExactTurnValveUptoRow : OpenClaim := { program := "ythdmbndndfiidaa", sum := "20772603f86c44df93c663c5927ae66f610b464897b5f4071b39516de66bb9a6", func := "loop.example/g00853/laws.FnExactTurnValve", spec := "fnExactTurnValve", unfollowed := true, recurses := true, apart := false, narrowed := true }
def FnExactTurnValveUptoSaid : Prop := fnExactTurnValveUptoRow.holds Try.pinned (OpenSpec.upto fnExactTurnValveSpec)

/-- 'laws.FnExactDryNodes', WHERE WHAT IT READS IS OF BULK AT MOST 1048576: true; the input reads as it did. -/
def fnExactDryNodesUptoRow : OpenClaim := { program := "ythdmbndndfiidaa", sum := "20772603f86c44df93c663c5927ae66f610b464897b5f4071b39516de66bb9a6", func := "loop.example/g00853/laws.FnExactDryNodes", spec := "fnExactDryNodes", unfollowed := true, recurses := true, apart := false, narrowed := true }
def FnExactDryNodesUptoSaid : Prop := fnExactDryNodesUptoRow.holds Try.pinned (OpenSpec.upto fnExactDryNodesSpec)

/-- 'laws.FnExactDryPipes', WHERE WHAT IT READS IS OF BULK AT MOST 1048576: true; the input reads as it did. -/
def fnExactDryPipesUptoRow : OpenClaim := { program := "ythdmbndndfiidaa", sum := "20772603f86c44df93c663c5927ae66f610b464897b5f4071b39516de66bb9a6", func := "loop.example/g00853/laws.FnExactDryPipes", spec := "fnExactDryPipes", unfollowed := true, recurses := true, apart := false, narrowed := true }
def FnExactDryPipesUptoSaid : Prop := fnExactDryPipesUptoRow.holds Try.pinned (OpenSpec.upto fnExactDryPipesSpec)

/-- 'laws.FnExactNeedlessValves', WHERE WHAT IT READS IS OF BULK AT MOST 1048576: true; the input reads as it did. -/
def fnExactNeedlessValvesUptoRow : OpenClaim := { program := "ythdmbndndfiidaa", sum := "20772603f86c44df93c663c5927ae66f610b464897b5f4071b39516de66bb9a6", func := "loop.example/g00853/laws.FnExactNeedlessValves", spec := "fnExactNeedlessValves", unfollowed := true, recurses := true, apart := false, narrowed := true }
def FnExactNeedlessValvesUptoSaid : Prop := fnExactNeedlessValvesUptoRow.holds Try.pinned (OpenSpec.upto fnExactNeedlessValvesSpec)

/-- 'laws.FnSegments', WHERE WHAT IT READS IS OF BULK AT MOST 1048576: true; the input reads as it did. -/
def fnSegmentsUptoRow : OpenClaim := { program := "ythdmbndndfiidaa", sum := "20772603f86c44df93c663c5927ae66f610b464897b5f4071b39516de66bb9a6", func := "loop.example/g00853/laws.FnSegments", spec := "fnSegments", unfollowed := true, recurses := true, apart := false, narrowed := true }
def FnSegmentsUptoSaid : Prop := fnSegmentsUptoRow.holds Try.pinned (OpenSpec.upto fnSegmentsSpec)

/-- 'laws.FnValves', WHERE WHAT IT READS IS OF BULK AT MOST 1048576: true; the input reads as it did. -/
def fnValvesUptoRow : OpenClaim := { program := "ythdmbndndfiidaa", sum := "20772603f86c44df93c663c5927ae66f610b464897b5f4071b39516de66bb9a6", func := "loop.example/g00853/laws.FnValves", spec := "fnValves", unfollowed := true, recurses := true, apart := false, narrowed := true }
def FnValvesUptoSaid : Prop := fnValvesUptoRow.holds Try.pinned (OpenSpec.upto fnValvesSpec)

end Rows
end Go.Proofs.Ythdmbndndfiidaa
