/-
  No cell of these rows narrows 'for every input' (looked for: loops, veiled, ifaces, maps, wideKeys, modest, calm, conditions, laid).
  DERIVED. THE GIVEN ROWS OF THIS SEAT. 10 by the template 'for every input the law returns true; each argument reads behind the call as it read before'; 0 by the template 'total and deterministic' (their statements: YtnfmdkbelbppdaaTotals.lean).
  GIVEN WITH THE SEED: the statements are not yours to turn. If you find one false, say at which input.
  Laid BY PROGRAM, IN A SANDBOX (cutbox-rows.mjs): the forced cells as the released guide's own fill.sh prints them over the translation 4f0bb5119040efea… (all of the seat's roots in one cut). By AI agents, Wed Nov 11 2026. No macro, syntax, notation, axiom, sorry.
-/
import Derived.Test.YtnfmdkbelbppdaaChecked
import GoSem.Claim
import GoSem.ClaimJoined
import GoSem.ClaimMapViews
import Derived.JoinedTies
import Derived.KernelRfl
namespace Go.Proofs.Ytnfmdkbelbppdaa
/- THE CELL 'sum', in the pinned program and in every row, IS THE sha256 OF THE DUMP (.gsa) THAT YtnfmdkbelbppdaaProg.lean LOADS. Nothing in Lean hashes anything: it is a label: what it is worth is what the hold of that sum in a sandbox is worth. -/
noncomputable def Try.pinned : Pinned := { name := "ytnfmdkbelbppdaa", sum := "4f0bb5119040efea789ca51e5b60c150c0fd5f7bedbb398fbe77febcbbdca17a", checked := Try.checked }
namespace Rows
def none {H : Type} : Left H := { results := [], args := [] }

/-- 'laws.FnExactIsPlan': WHATEVER THE INPUT: true; the input reads as it did. -/
def fnExactIsPlanSpec : ChangeSpec := { name := "fnExactIsPlan", fn := fun _ => fun
  | [d1, d2, d3, d4, d5] => { results := [.lit (.bool true)], args := [d1, d2, d3, d4, d5] }
  | _ => none }
def fnExactIsPlanRow : OpenClaim := { program := "ytnfmdkbelbppdaa", sum := "4f0bb5119040efea789ca51e5b60c150c0fd5f7bedbb398fbe77febcbbdca17a", func := "loop.example/g00853/laws.FnExactIsPlan", spec := "fnExactIsPlan", unfollowed := true, recurses := true, apart := false }
def FnExactIsPlanSaid : Prop := fnExactIsPlanRow.holds Try.pinned (OpenSpec.ofChange fnExactIsPlanSpec)

/-- ITS FALSE NEIGHBOUR: 'it returns false'. Refute it at one input. -/
def fnExactIsPlanWrong : ChangeSpec := { name := "fnExactIsPlan", fn := fun _ => fun
  | [d1, d2, d3, d4, d5] => { results := [.lit (.bool false)], args := [d1, d2, d3, d4, d5] }
  | _ => none }
def FnExactIsPlanWrongFalsely : Prop := fnExactIsPlanRow.holds Try.pinned (OpenSpec.ofChange fnExactIsPlanWrong)

/-- 'laws.FnExactShortestPlan': WHATEVER THE INPUT: true; the input reads as it did. -/
def fnExactShortestPlanSpec : ChangeSpec := { name := "fnExactShortestPlan", fn := fun _ => fun
  | [d1, d2, d3, d4] => { results := [.lit (.bool true)], args := [d1, d2, d3, d4] }
  | _ => none }
def fnExactShortestPlanRow : OpenClaim := { program := "ytnfmdkbelbppdaa", sum := "4f0bb5119040efea789ca51e5b60c150c0fd5f7bedbb398fbe77febcbbdca17a", func := "loop.example/g00853/laws.FnExactShortestPlan", spec := "fnExactShortestPlan", unfollowed := true, recurses := true, apart := false }
def FnExactShortestPlanSaid : Prop := fnExactShortestPlanRow.holds Try.pinned (OpenSpec.ofChange fnExactShortestPlanSpec)

/-- ITS FALSE NEIGHBOUR: 'it returns false'. Refute it at one input. -/
def fnExactShortestPlanWrong : ChangeSpec := { name := "fnExactShortestPlan", fn := fun _ => fun
  | [d1, d2, d3, d4] => { results := [.lit (.bool false)], args := [d1, d2, d3, d4] }
  | _ => none }
def FnExactShortestPlanWrongFalsely : Prop := fnExactShortestPlanRow.holds Try.pinned (OpenSpec.ofChange fnExactShortestPlanWrong)

/-- 'laws.FnExactHarmOf': WHATEVER THE INPUT: true; the input reads as it did. -/
def fnExactHarmOfSpec : ChangeSpec := { name := "fnExactHarmOf", fn := fun _ => fun
  | [d1, d2, d3, d4, d5, d6] => { results := [.lit (.bool true)], args := [d1, d2, d3, d4, d5, d6] }
  | _ => none }
def fnExactHarmOfRow : OpenClaim := { program := "ytnfmdkbelbppdaa", sum := "4f0bb5119040efea789ca51e5b60c150c0fd5f7bedbb398fbe77febcbbdca17a", func := "loop.example/g00853/laws.FnExactHarmOf", spec := "fnExactHarmOf", unfollowed := true, recurses := true, apart := false }
def FnExactHarmOfSaid : Prop := fnExactHarmOfRow.holds Try.pinned (OpenSpec.ofChange fnExactHarmOfSpec)

/-- ITS FALSE NEIGHBOUR: 'it returns false'. Refute it at one input. -/
def fnExactHarmOfWrong : ChangeSpec := { name := "fnExactHarmOf", fn := fun _ => fun
  | [d1, d2, d3, d4, d5, d6] => { results := [.lit (.bool false)], args := [d1, d2, d3, d4, d5, d6] }
  | _ => none }
def FnExactHarmOfWrongFalsely : Prop := fnExactHarmOfRow.holds Try.pinned (OpenSpec.ofChange fnExactHarmOfWrong)

/-- 'laws.FnExactGentlestPlan': WHATEVER THE INPUT: true; the input reads as it did. -/
def fnExactGentlestPlanSpec : ChangeSpec := { name := "fnExactGentlestPlan", fn := fun _ => fun
  | [d1, d2, d3, d4, d5] => { results := [.lit (.bool true)], args := [d1, d2, d3, d4, d5] }
  | _ => none }
def fnExactGentlestPlanRow : OpenClaim := { program := "ytnfmdkbelbppdaa", sum := "4f0bb5119040efea789ca51e5b60c150c0fd5f7bedbb398fbe77febcbbdca17a", func := "loop.example/g00853/laws.FnExactGentlestPlan", spec := "fnExactGentlestPlan", unfollowed := true, recurses := true, apart := false }
def FnExactGentlestPlanSaid : Prop := fnExactGentlestPlanRow.holds Try.pinned (OpenSpec.ofChange fnExactGentlestPlanSpec)

/-- ITS FALSE NEIGHBOUR: 'it returns false'. Refute it at one input. -/
def fnExactGentlestPlanWrong : ChangeSpec := { name := "fnExactGentlestPlan", fn := fun _ => fun
  | [d1, d2, d3, d4, d5] => { results := [.lit (.bool false)], args := [d1, d2, d3, d4, d5] }
  | _ => none }
def FnExactGentlestPlanWrongFalsely : Prop := fnExactGentlestPlanRow.holds Try.pinned (OpenSpec.ofChange fnExactGentlestPlanWrong)

/-- 'laws.FnExactSegmentPlan': WHATEVER THE INPUT: true; the input reads as it did. -/
def fnExactSegmentPlanSpec : ChangeSpec := { name := "fnExactSegmentPlan", fn := fun _ => fun
  | [d1, d2, d3, d4] => { results := [.lit (.bool true)], args := [d1, d2, d3, d4] }
  | _ => none }
def fnExactSegmentPlanRow : OpenClaim := { program := "ytnfmdkbelbppdaa", sum := "4f0bb5119040efea789ca51e5b60c150c0fd5f7bedbb398fbe77febcbbdca17a", func := "loop.example/g00853/laws.FnExactSegmentPlan", spec := "fnExactSegmentPlan", unfollowed := true, recurses := true, apart := false }
def FnExactSegmentPlanSaid : Prop := fnExactSegmentPlanRow.holds Try.pinned (OpenSpec.ofChange fnExactSegmentPlanSpec)

/-- ITS FALSE NEIGHBOUR: 'it returns false'. Refute it at one input. -/
def fnExactSegmentPlanWrong : ChangeSpec := { name := "fnExactSegmentPlan", fn := fun _ => fun
  | [d1, d2, d3, d4] => { results := [.lit (.bool false)], args := [d1, d2, d3, d4] }
  | _ => none }
def FnExactSegmentPlanWrongFalsely : Prop := fnExactSegmentPlanRow.holds Try.pinned (OpenSpec.ofChange fnExactSegmentPlanWrong)

/-- 'laws.FnExactHopelessPipes': WHATEVER THE INPUT: true; the input reads as it did. -/
def fnExactHopelessPipesSpec : ChangeSpec := { name := "fnExactHopelessPipes", fn := fun _ => fun
  | [d1, d2, d3] => { results := [.lit (.bool true)], args := [d1, d2, d3] }
  | _ => none }
def fnExactHopelessPipesRow : OpenClaim := { program := "ytnfmdkbelbppdaa", sum := "4f0bb5119040efea789ca51e5b60c150c0fd5f7bedbb398fbe77febcbbdca17a", func := "loop.example/g00853/laws.FnExactHopelessPipes", spec := "fnExactHopelessPipes", unfollowed := true, recurses := true, apart := false }
def FnExactHopelessPipesSaid : Prop := fnExactHopelessPipesRow.holds Try.pinned (OpenSpec.ofChange fnExactHopelessPipesSpec)

/-- ITS FALSE NEIGHBOUR: 'it returns false'. Refute it at one input. -/
def fnExactHopelessPipesWrong : ChangeSpec := { name := "fnExactHopelessPipes", fn := fun _ => fun
  | [d1, d2, d3] => { results := [.lit (.bool false)], args := [d1, d2, d3] }
  | _ => none }
def FnExactHopelessPipesWrongFalsely : Prop := fnExactHopelessPipesRow.holds Try.pinned (OpenSpec.ofChange fnExactHopelessPipesWrong)

/-- 'laws.FnExactWorstBurst': WHATEVER THE INPUT: true; the input reads as it did. -/
def fnExactWorstBurstSpec : ChangeSpec := { name := "fnExactWorstBurst", fn := fun _ => fun
  | [d1, d2, d3, d4] => { results := [.lit (.bool true)], args := [d1, d2, d3, d4] }
  | _ => none }
def fnExactWorstBurstRow : OpenClaim := { program := "ytnfmdkbelbppdaa", sum := "4f0bb5119040efea789ca51e5b60c150c0fd5f7bedbb398fbe77febcbbdca17a", func := "loop.example/g00853/laws.FnExactWorstBurst", spec := "fnExactWorstBurst", unfollowed := true, recurses := true, apart := false }
def FnExactWorstBurstSaid : Prop := fnExactWorstBurstRow.holds Try.pinned (OpenSpec.ofChange fnExactWorstBurstSpec)

/-- ITS FALSE NEIGHBOUR: 'it returns false'. Refute it at one input. -/
def fnExactWorstBurstWrong : ChangeSpec := { name := "fnExactWorstBurst", fn := fun _ => fun
  | [d1, d2, d3, d4] => { results := [.lit (.bool false)], args := [d1, d2, d3, d4] }
  | _ => none }
def FnExactWorstBurstWrongFalsely : Prop := fnExactWorstBurstRow.holds Try.pinned (OpenSpec.ofChange fnExactWorstBurstWrong)

/-- 'laws.FnExactNewValveGain': WHATEVER THE INPUT: true; the input reads as it did. -/
def fnExactNewValveGainSpec : ChangeSpec := { name := "fnExactNewValveGain", fn := fun _ => fun
  | [d1, d2, d3, d4, d5, d6] => { results := [.lit (.bool true)], args := [d1, d2, d3, d4, d5, d6] }
  | _ => none }
def fnExactNewValveGainRow : OpenClaim := { program := "ytnfmdkbelbppdaa", sum := "4f0bb5119040efea789ca51e5b60c150c0fd5f7bedbb398fbe77febcbbdca17a", func := "loop.example/g00853/laws.FnExactNewValveGain", spec := "fnExactNewValveGain", inPlace := ["slices.overlaps[loop.example/g00853/impl.Valve]"], unfollowed := true, recurses := true, apart := false }
def FnExactNewValveGainSaid : Prop := fnExactNewValveGainRow.holds Try.pinned (OpenSpec.ofChange fnExactNewValveGainSpec)

/-- ITS FALSE NEIGHBOUR: 'it returns false'. Refute it at one input. -/
def fnExactNewValveGainWrong : ChangeSpec := { name := "fnExactNewValveGain", fn := fun _ => fun
  | [d1, d2, d3, d4, d5, d6] => { results := [.lit (.bool false)], args := [d1, d2, d3, d4, d5, d6] }
  | _ => none }
def FnExactNewValveGainWrongFalsely : Prop := fnExactNewValveGainRow.holds Try.pinned (OpenSpec.ofChange fnExactNewValveGainWrong)

/-- 'laws.FnPlans': WHATEVER THE INPUT: true; the input reads as it did. -/
def fnPlansSpec : ChangeSpec := { name := "fnPlans", fn := fun _ => fun
  | [d] => { results := [.lit (.bool true)], args := [d] }
  | _ => none }
def fnPlansRow : OpenClaim := { program := "ytnfmdkbelbppdaa", sum := "4f0bb5119040efea789ca51e5b60c150c0fd5f7bedbb398fbe77febcbbdca17a", func := "loop.example/g00853/laws.FnPlans", spec := "fnPlans", unfollowed := true, recurses := true, apart := false }
def FnPlansSaid : Prop := fnPlansRow.holds Try.pinned (OpenSpec.ofChange fnPlansSpec)

/-- ITS FALSE NEIGHBOUR: 'it returns false'. Refute it at one input. -/
def fnPlansWrong : ChangeSpec := { name := "fnPlans", fn := fun _ => fun
  | [d] => { results := [.lit (.bool false)], args := [d] }
  | _ => none }
def FnPlansWrongFalsely : Prop := fnPlansRow.holds Try.pinned (OpenSpec.ofChange fnPlansWrong)

/-- 'laws.FnHarm': WHATEVER THE INPUT: true; the input reads as it did. -/
def fnHarmSpec : ChangeSpec := { name := "fnHarm", fn := fun _ => fun
  | [d] => { results := [.lit (.bool true)], args := [d] }
  | _ => none }
def fnHarmRow : OpenClaim := { program := "ytnfmdkbelbppdaa", sum := "4f0bb5119040efea789ca51e5b60c150c0fd5f7bedbb398fbe77febcbbdca17a", func := "loop.example/g00853/laws.FnHarm", spec := "fnHarm", inPlace := ["slices.overlaps[loop.example/g00853/impl.Valve]"], unfollowed := true, recurses := true, apart := false }
def FnHarmSaid : Prop := fnHarmRow.holds Try.pinned (OpenSpec.ofChange fnHarmSpec)

/-- ITS FALSE NEIGHBOUR: 'it returns false'. Refute it at one input. -/
def fnHarmWrong : ChangeSpec := { name := "fnHarm", fn := fun _ => fun
  | [d] => { results := [.lit (.bool false)], args := [d] }
  | _ => none }
def FnHarmWrongFalsely : Prop := fnHarmRow.holds Try.pinned (OpenSpec.ofChange fnHarmWrong)

/- THE SECOND FORM. 'bulk': how many values and letters a reading holds, each counted each time it is reached (what is shared counts as often as it is met; a slice's spare places count too). A statement '..UptoSaid' is the law's where the arguments, and the package variables that the reading takes, are together of bulk at most 1048576: NARROWER than '..Said'. Prove '..Said' where nothing that the law and all that it calls make is longer than what came in: it says more and counts as full. Else prove '..UptoSaid'. A law counts once. -/
mutual
def uptoBulk {H : Type} : DataW H → Nat
  | .lit (.string bytes) => bytes.length + 1
  | .lit _ => 1
  | .nil => 1
  | .ptr d => uptoBulk d + 1
  | .slice elems spare => uptoBulkAll elems + uptoBulkAll spare + 1
  | .agg parts => uptoBulkAll parts + 1
  | .iface _ d => uptoBulk d + 1
  | .map entries => uptoBulkEntries entries + 1
  | .held _ => 1
def uptoBulkAll {H : Type} : List (DataW H) → Nat
  | [] => 0
  | d :: r => uptoBulk d + uptoBulkAll r
def uptoBulkEntries {H : Type} : List (Lit × DataW H) → Nat
  | [] => 0
  | x :: r => uptoBulkEntry x + uptoBulkEntries r
def uptoBulkEntry {H : Type} : Lit × DataW H → Nat
  | (.string bytes, d) => bytes.length + uptoBulk d + 1
  | (_, d) => uptoBulk d + 1
 end
def uptoSmall : (H : Type) → List (DataW H) → Bool := fun _ ds => decide (uptoBulkAll ds ≤ 1048576)
def OpenSpec.upto (s : _root_.Go.ChangeSpec) : _root_.Go.OpenSpec := { _root_.Go.OpenSpec.ofChange s with cond := some uptoSmall }

/-- 'laws.FnExactIsPlan', WHERE WHAT IT READS IS OF BULK AT MOST 1048576: true; the input reads as it did. -/
def fnExactIsPlanUptoRow : OpenClaim := { program := "ytnfmdkbelbppdaa", sum := "4f0bb5119040efea789ca51e5b60c150c0fd5f7bedbb398fbe77febcbbdca17a", func := "loop.example/g00853/laws.FnExactIsPlan", spec := "fnExactIsPlan", unfollowed := true, recurses := true, apart := false, narrowed := true }
def FnExactIsPlanUptoSaid : Prop := fnExactIsPlanUptoRow.holds Try.pinned (OpenSpec.upto fnExactIsPlanSpec)

/-- 'laws.FnExactShortestPlan', WHERE WHAT IT READS IS OF BULK AT MOST 1048576: true; the input reads as it did. -/
def fnExactShortestPlanUptoRow : OpenClaim := { program := "ytnfmdkbelbppdaa", sum := "4f0bb5119040efea789ca51e5b60c150c0fd5f7bedbb398fbe77febcbbdca17a", func := "loop.example/g00853/laws.FnExactShortestPlan", spec := "fnExactShortestPlan", unfollowed := true, recurses := true, apart := false, narrowed := true }
def FnExactShortestPlanUptoSaid : Prop := fnExactShortestPlanUptoRow.holds Try.pinned (OpenSpec.upto fnExactShortestPlanSpec)

/-- 'laws.FnExactHarmOf', WHERE WHAT IT READS IS OF BULK AT MOST 1048576: true; the input reads as it did. -/
def fnExactHarmOfUptoRow : OpenClaim := { program := "ytnfmdkbelbppdaa", sum := "4f0bb5119040efea789ca51e5b60c150c0fd5f7bedbb398fbe77febcbbdca17a", func := "loop.example/g00853/laws.FnExactHarmOf", spec := "fnExactHarmOf", unfollowed := true, recurses := true, apart := false, narrowed := true }
def FnExactHarmOfUptoSaid : Prop := fnExactHarmOfUptoRow.holds Try.pinned (OpenSpec.upto fnExactHarmOfSpec)

/-- 'laws.FnExactGentlestPlan', WHERE WHAT IT READS IS OF BULK AT MOST 1048576: true; the input reads as it did. -/
def fnExactGentlestPlanUptoRow : OpenClaim := { program := "ytnfmdkbelbppdaa", sum := "4f0bb5119040efea789ca51e5b60c150c0fd5f7bedbb398fbe77febcbbdca17a", func := "loop.example/g00853/laws.FnExactGentlestPlan", spec := "fnExactGentlestPlan", unfollowed := true, recurses := true, apart := false, narrowed := true }
def FnExactGentlestPlanUptoSaid : Prop := fnExactGentlestPlanUptoRow.holds Try.pinned (OpenSpec.upto fnExactGentlestPlanSpec)

/-- 'laws.FnExactSegmentPlan', WHERE WHAT IT READS IS OF BULK AT MOST 1048576: true; the input reads as it did. -/
def fnExactSegmentPlanUptoRow : OpenClaim := { program := "ytnfmdkbelbppdaa", sum := "4f0bb5119040efea789ca51e5b60c150c0fd5f7bedbb398fbe77febcbbdca17a", func := "loop.example/g00853/laws.FnExactSegmentPlan", spec := "fnExactSegmentPlan", unfollowed := true, recurses := true, apart := false, narrowed := true }
def FnExactSegmentPlanUptoSaid : Prop := fnExactSegmentPlanUptoRow.holds Try.pinned (OpenSpec.upto fnExactSegmentPlanSpec)

/-- 'laws.FnExactHopelessPipes', WHERE WHAT IT READS IS OF BULK AT MOST 1048576: true; the input reads as it did. -/
def fnExactHopelessPipesUptoRow : OpenClaim := { program := "ytnfmdkbelbppdaa", sum := "4f0bb5119040efea789ca51e5b60c150c0fd5f7bedbb398fbe77febcbbdca17a", func := "loop.example/g00853/laws.FnExactHopelessPipes", spec := "fnExactHopelessPipes", unfollowed := true, recurses := true, apart := false, narrowed := true }
def FnExactHopelessPipesUptoSaid : Prop := fnExactHopelessPipesUptoRow.holds Try.pinned (OpenSpec.upto fnExactHopelessPipesSpec)

/-- 'laws.FnExactWorstBurst', WHERE WHAT IT READS IS OF BULK AT MOST 1048576: true; the input reads as it did. -/
def fnExactWorstBurstUptoRow : OpenClaim := { program := "ytnfmdkbelbppdaa", sum := "4f0bb5119040efea789ca51e5b60c150c0fd5f7bedbb398fbe77febcbbdca17a", func := "loop.example/g00853/laws.FnExactWorstBurst", spec := "fnExactWorstBurst", unfollowed := true, recurses := true, apart := false, narrowed := true }
def FnExactWorstBurstUptoSaid : Prop := fnExactWorstBurstUptoRow.holds Try.pinned (OpenSpec.upto fnExactWorstBurstSpec)

/-- 'laws.FnExactNewValveGain', WHERE WHAT IT READS IS OF BULK AT MOST 1048576: true; the input reads as it did. -/
def fnExactNewValveGainUptoRow : OpenClaim := { program := "ytnfmdkbelbppdaa", sum := "4f0bb5119040efea789ca51e5b60c150c0fd5f7bedbb398fbe77febcbbdca17a", func := "loop.example/g00853/laws.FnExactNewValveGain", spec := "fnExactNewValveGain", inPlace := ["slices.overlaps[loop.example/g00853/impl.Valve]"], unfollowed := true, recurses := true, apart := false, narrowed := true }
def FnExactNewValveGainUptoSaid : Prop := fnExactNewValveGainUptoRow.holds Try.pinned (OpenSpec.upto fnExactNewValveGainSpec)

/-- 'laws.FnPlans', WHERE WHAT IT READS IS OF BULK AT MOST 1048576: true; the input reads as it did. -/
def fnPlansUptoRow : OpenClaim := { program := "ytnfmdkbelbppdaa", sum := "4f0bb5119040efea789ca51e5b60c150c0fd5f7bedbb398fbe77febcbbdca17a", func := "loop.example/g00853/laws.FnPlans", spec := "fnPlans", unfollowed := true, recurses := true, apart := false, narrowed := true }
def FnPlansUptoSaid : Prop := fnPlansUptoRow.holds Try.pinned (OpenSpec.upto fnPlansSpec)

/-- 'laws.FnHarm', WHERE WHAT IT READS IS OF BULK AT MOST 1048576: true; the input reads as it did. -/
def fnHarmUptoRow : OpenClaim := { program := "ytnfmdkbelbppdaa", sum := "4f0bb5119040efea789ca51e5b60c150c0fd5f7bedbb398fbe77febcbbdca17a", func := "loop.example/g00853/laws.FnHarm", spec := "fnHarm", inPlace := ["slices.overlaps[loop.example/g00853/impl.Valve]"], unfollowed := true, recurses := true, apart := false, narrowed := true }
def FnHarmUptoSaid : Prop := fnHarmUptoRow.holds Try.pinned (OpenSpec.upto fnHarmSpec)

end Rows
end Go.Proofs.Ytnfmdkbelbppdaa
