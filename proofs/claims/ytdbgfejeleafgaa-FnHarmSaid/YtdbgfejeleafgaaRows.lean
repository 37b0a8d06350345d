/-
  No cell of these rows narrows 'for every input' (looked for: loops, veiled, ifaces, maps, wideKeys, modest, calm, conditions, laid).
  DERIVED. THE GIVEN ROWS OF THIS SEAT. 5 by the template 'for every input the law returns true; each argument reads behind the call as it read before'; 0 by the template 'total and deterministic' (their statements: YtdbgfejeleafgaaTotals.lean).
  GIVEN WITH THE SEED: the statements are not yours to turn. If you find one false, say at which input.
  Laid BY PROGRAM, IN A SANDBOX (cutbox-rows.mjs): the forced cells as the released guide's own fill.sh prints them over the translation 8b6695174f031697… (all of the seat's roots in one cut). By AI agents, Wed Nov 11 2026. No macro, syntax, notation, axiom, sorry.
-/
import Derived.Test.YtdbgfejeleafgaaChecked
import GoSem.Claim
import GoSem.ClaimJoined
import GoSem.ClaimMapViews
import Derived.JoinedTies
import Derived.KernelRfl
namespace Go.Proofs.Ytdbgfejeleafgaa
/- THE CELL 'sum', in the pinned program and in every row, IS THE sha256 OF THE DUMP (.gsa) THAT YtdbgfejeleafgaaProg.lean LOADS. Nothing in Lean hashes anything: it is a label: what it is worth is what the hold of that sum in a sandbox is worth. -/
noncomputable def Try.pinned : Pinned := { name := "ytdbgfejeleafgaa", sum := "8b6695174f031697230be1548c3741bf17927be2e0ab751b6574e7f6cbc6ed22", checked := Try.checked }
namespace Rows
def none {H : Type} : Left H := { results := [], args := [] }

/-- 'laws.FnSegments': WHATEVER THE INPUT: true; the input reads as it did. -/
def fnSegmentsSpec : ChangeSpec := { name := "fnSegments", fn := fun _ => fun
  | [d] => { results := [.lit (.bool true)], args := [d] }
  | _ => none }
def fnSegmentsRow : OpenClaim := { program := "ytdbgfejeleafgaa", sum := "8b6695174f031697230be1548c3741bf17927be2e0ab751b6574e7f6cbc6ed22", func := "loop.example/g00853/laws.FnSegments", spec := "fnSegments", unfollowed := true, recurses := true, apart := false }
def FnSegmentsSaid : Prop := fnSegmentsRow.holds Try.pinned (OpenSpec.ofChange fnSegmentsSpec)

/-- ITS FALSE NEIGHBOUR: 'it returns false'. Refute it at one input. -/
def fnSegmentsWrong : ChangeSpec := { name := "fnSegments", fn := fun _ => fun
  | [d] => { results := [.lit (.bool false)], args := [d] }
  | _ => none }
def FnSegmentsWrongFalsely : Prop := fnSegmentsRow.holds Try.pinned (OpenSpec.ofChange fnSegmentsWrong)

/-- 'laws.FnValves': WHATEVER THE INPUT: true; the input reads as it did. -/
def fnValvesSpec : ChangeSpec := { name := "fnValves", fn := fun _ => fun
  | [d] => { results := [.lit (.bool true)], args := [d] }
  | _ => none }
def fnValvesRow : OpenClaim := { program := "ytdbgfejeleafgaa", sum := "8b6695174f031697230be1548c3741bf17927be2e0ab751b6574e7f6cbc6ed22", func := "loop.example/g00853/laws.FnValves", spec := "fnValves", unfollowed := true, recurses := true, apart := false }
def FnValvesSaid : Prop := fnValvesRow.holds Try.pinned (OpenSpec.ofChange fnValvesSpec)

/-- ITS FALSE NEIGHBOUR: 'it returns false'. Refute it at one input. -/
def fnValvesWrong : ChangeSpec := { name := "fnValves", fn := fun _ => fun
  | [d] => { results := [.lit (.bool false)], args := [d] }
  | _ => none }
def FnValvesWrongFalsely : Prop := fnValvesRow.holds Try.pinned (OpenSpec.ofChange fnValvesWrong)

/-- 'laws.FnExactNewValveGain': WHATEVER THE INPUT: true; the input reads as it did. -/
def fnExactNewValveGainSpec : ChangeSpec := { name := "fnExactNewValveGain", fn := fun _ => fun
  | [d1, d2, d3, d4, d5, d6] => { results := [.lit (.bool true)], args := [d1, d2, d3, d4, d5, d6] }
  | _ => none }
def fnExactNewValveGainRow : OpenClaim := { program := "ytdbgfejeleafgaa", sum := "8b6695174f031697230be1548c3741bf17927be2e0ab751b6574e7f6cbc6ed22", func := "loop.example/g00853/laws.FnExactNewValveGain", spec := "fnExactNewValveGain", inPlace := ["slices.overlaps[loop.example/g00853/impl.Valve]"], unfollowed := true, recurses := true, apart := false }
def FnExactNewValveGainSaid : Prop := fnExactNewValveGainRow.holds Try.pinned (OpenSpec.ofChange fnExactNewValveGainSpec)

/-- ITS FALSE NEIGHBOUR: 'it returns false'. Refute it at one input. -/
def fnExactNewValveGainWrong : ChangeSpec := { name := "fnExactNewValveGain", fn := fun _ => fun
  | [d1, d2, d3, d4, d5, d6] => { results := [.lit (.bool false)], args := [d1, d2, d3, d4, d5, d6] }
  | _ => none }
def FnExactNewValveGainWrongFalsely : Prop := fnExactNewValveGainRow.holds Try.pinned (OpenSpec.ofChange fnExactNewValveGainWrong)

/-- 'laws.FnPlans': WHATEVER THE INPUT: true; the input reads as it did. -/
def fnPlansSpec : ChangeSpec := { name := "fnPlans", fn := fun _ => fun
  | [d] => { results := [.lit (.bool true)], args := [d] }
  | _ => none }
def fnPlansRow : OpenClaim := { program := "ytdbgfejeleafgaa", sum := "8b6695174f031697230be1548c3741bf17927be2e0ab751b6574e7f6cbc6ed22", func := "loop.example/g00853/laws.FnPlans", spec := "fnPlans", unfollowed := true, recurses := true, apart := false }
def FnPlansSaid : Prop := fnPlansRow.holds Try.pinned (OpenSpec.ofChange fnPlansSpec)

/-- ITS FALSE NEIGHBOUR: 'it returns false'. Refute it at one input. -/
def fnPlansWrong : ChangeSpec := { name := "fnPlans", fn := fun _ => fun
  | [d] => { results := [.lit (.bool false)], args := [d] }
  | _ => none }
def FnPlansWrongFalsely : Prop := fnPlansRow.holds Try.pinned (OpenSpec.ofChange fnPlansWrong)

/-- 'laws.FnHarm': WHATEVER THE INPUT: true; the input reads as it did. -/
def fnHarmSpec : ChangeSpec := { name := "fnHarm", fn := fun _ => fun
  | [d] => { results := [.lit (.bool true)], args := [d] }
  | _ => none }
def fnHarmRow : OpenClaim := { program := "ytdbgfejeleafgaa", sum := "8b6695174f031697230be1548c3741bf17927be2e0ab751b6574e7f6cbc6ed22", func := "loop.example/g00853/laws.FnHarm", spec := "fnHarm", inPlace := ["slices.overlaps[loop.example/g00853/impl.Valve]"], unfollowed := true, recurses := true, apart := false }
def FnHarmSaid : Prop := fnHarmRow.holds Try.pinned (OpenSpec.ofChange fnHarmSpec)

/-- ITS FALSE NEIGHBOUR: 'it returns false'. Refute it at one input. -/
def fnHarmWrong : ChangeSpec := { name := "fnHarm", fn := fun _ => fun
  | [d] => { results := [.lit (.bool false)], args := [d] }
  | _ => none }
def FnHarmWrongFalsely : Prop := fnHarmRow.holds Try.pinned (OpenSpec.ofChange fnHarmWrong)

/- THE SECOND FORM. 'bulk': how many values and letters a reading holds, each counted each time it is reached (what is shared counts as often as it is met; a slice's spare places count too). A statement '..UptoSaid' is the law's where the arguments, and the package variables that the reading takes, are together of bulk at most 1048576: NARROWER than '..Said'. Prove '..Said' where nothing that the law and all that it calls make is longer than what came in: it says more and counts as full. Else prove '..UptoSaid'. A law counts once. -/
mutual
def uptoBulk {H : Type} : DataW H → Nat
  | .lit (.string bytes) => bytes.length + 1
  | .lit _ => 1
  | .nil => 1
  | .ptr d => uptoBulk d + 1
  | .slice elems spare => uptoBulkAll elems + uptoBulkAll spare + 1
  | .agg parts => uptoBulkAll parts + 1
  | .iface _ d => uptoBulk d + 1
  | .map entries => uptoBulkEntries entries + 1
  | .held _ => 1
def uptoBulkAll {H : Type} : List (DataW H) → Nat
  | [] => 0
  | d :: r => uptoBulk d + uptoBulkAll r
def uptoBulkEntries {H : Type} : List (Lit × DataW H) → Nat
  | [] => 0
  | x :: r => uptoBulkEntry x + uptoBulkEntries r
def uptoBulkEntry {H : Type} : Lit × DataW H → Nat
  | (.string bytes, d) => bytes.length + uptoBulk d + 1
  | (_, d) => uptoBulk d + 1
 end
def uptoSmall : (H : Type) → List (DataW H) → Bool := fun _ ds => decide (uptoBulkAll ds ≤ 1048576)
def OpenSpec.upto (s : _root_.Go.ChangeSpec) : _root_.Go.OpenSpec := { _root_.Go.OpenSpec.ofChange s with cond := some uptoSmall }

/-- 'laws.FnSegments', WHERE WHAT IT READS IS OF BULK AT MOST 1048576: true; the input reads as it did. -/
def fnSegmentsUptoRow : OpenClaim := { program := "ytdbgfejeleafgaa", sum := "8b6695174f031697230be1548c3741bf17927be2e0ab751b6574e7f6cbc6ed22", func := "loop.example/g00853/laws.FnSegments", spec := "fnSegments", unfollowed := true, recurses := true, apart := false, narrowed := true }
def FnSegmentsUptoSaid : Prop := fnSegmentsUptoRow.holds Try.pinned (OpenSpec.upto fnSegmentsSpec)

/-- 'laws.FnValves', WHERE WHAT IT READS IS OF BULK AT MOST 1048576: true; the input reads as it did. -/
def fnValvesUptoRow : OpenClaim := { program := "ytdbgfejeleafgaa", sum := "8b6695174f031697230be1548c3741bf17927be2e0ab751b6574e7f6cbc6ed22", func := "loop.example/g00853/laws.FnValves", spec := "fnValves", unfollowed := true, recurses := true, apart := false, narrowed := true }
def FnValvesUptoSaid : Prop := fnValvesUptoRow.holds Try.pinned (OpenSpec.upto fnValvesSpec)

/-- 'laws.FnExactNewValveGain', WHERE WHAT IT READS IS OF BULK AT MOST 1048576: true; the input reads as it did. -/
def fnExactNewValveGainUptoRow : OpenClaim := { program := "ytdbgfejeleafgaa", sum := "8b6695174f031697230be1548c3741bf17927be2e0ab751b6574e7f6cbc6ed22", func := "loop.example/g00853/laws.FnExactNewValveGain", spec := "fnExactNewValveGain", inPlace := ["slices.overlaps[loop.example/g00853/impl.Valve]"], unfollowed := true, recurses := true, apart := false, narrowed := true }
def FnExactNewValveGainUptoSaid : Prop := fnExactNewValveGainUptoRow.holds Try.pinned (OpenSpec.upto fnExactNewValveGainSpec)

/-- 'laws.FnPlans', WHERE WHAT IT READS IS OF BULK AT MOST 1048576: true; the input reads as it did. -/
def fnPlansUptoRow : OpenClaim := { program := "ytdbgfejeleafgaa", sum := "8b6695174f031697230be1548c3741bf17927be2e0ab751b6574e7f6cbc6ed22", func := "loop.example/g00853/laws.FnPlans", spec := "fnPlans", unfollowed := true, recurses := true, apart := false, narrowed := true }
def FnPlansUptoSaid : Prop := fnPlansUptoRow.holds Try.pinned (OpenSpec.upto fnPlansSpec)

/-- 'laws.FnHarm', WHERE WHAT IT READS IS OF BULK AT MOST 1048576: true; the input reads as it did. -/
def fnHarmUptoRow : OpenClaim := { program := "ytdbgfejeleafgaa", sum := "8b6695174f031697230be1548c3741bf17927be2e0ab751b6574e7f6cbc6ed22", func := "loop.example/g00853/laws.FnHarm", spec := "fnHarm", inPlace := ["slices.overlaps[loop.example/g00853/impl.Valve]"], unfollowed := true, recurses := true, apart := false, narrowed := true }
def FnHarmUptoSaid : Prop := fnHarmUptoRow.holds Try.pinned (OpenSpec.upto fnHarmSpec)

end Rows
end Go.Proofs.Ytdbgfejeleafgaa
