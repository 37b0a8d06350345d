/-
  No cell of these rows narrows 'for every input' (looked for: loops, veiled, ifaces, maps, wideKeys, modest, calm, conditions, laid).
  DERIVED. THE GIVEN ROWS OF THIS SEAT. 5 by the template 'for every input the law returns true; each argument reads behind the call as it read before'; 0 by the template 'total and deterministic' (their statements: YtanedebkpcpknaaTotals.lean).
  GIVEN WITH THE SEED: the statements are not yours to turn. If you find one false, say at which input.
  Laid BY PROGRAM, IN A SANDBOX (cutbox-rows.mjs): the forced cells as the released guide's own fill.sh prints them over the translation f55d70b5fad62f8c… (all of the seat's roots in one cut). By AI agents, Wed Nov 11 2026. No macro, syntax, notation, axiom, sorry.
-/
import Derived.Test.YtanedebkpcpknaaChecked
import GoSem.Claim
import GoSem.ClaimJoined
import GoSem.ClaimMapViews
import Derived.JoinedTies
import Derived.KernelRfl
namespace Go.Proofs.Ytanedebkpcpknaa
/- THE CELL 'sum', in the pinned program and in every row, IS THE sha256 OF THE DUMP (.gsa) THAT YtanedebkpcpknaaProg.lean LOADS. Nothing in Lean hashes anything: it is a label: what it is worth is what the hold of that sum in a sandbox is worth. -/
noncomputable def Try.pinned : Pinned := { name := "ytanedebkpcpknaa", sum := "f55d70b5fad62f8cd0674bae452480c59a52b969b6d96bc10168a317d4df0df2", checked := Try.checked }
namespace Rows
def none {H : Type} : Left H := { results := [], args := [] }

/-- 'laws.FnExactFlatProfile': WHATEVER THE INPUT: true; the input reads as it did. -/
def fnExactFlatProfileSpec : ChangeSpec := { name := "fnExactFlatProfile", fn := fun _ => fun
  | [] => { results := [.lit (.bool true)], args := [] }
  | _ => none }
def fnExactFlatProfileRow : OpenClaim := { program := "ytanedebkpcpknaa", sum := "f55d70b5fad62f8cd0674bae452480c59a52b969b6d96bc10168a317d4df0df2", func := "loop.example/g00853/laws.FnExactFlatProfile", spec := "fnExactFlatProfile", apart := false }
def FnExactFlatProfileSaid : Prop := fnExactFlatProfileRow.holds Try.pinned (OpenSpec.ofChange fnExactFlatProfileSpec)

/-- ITS FALSE NEIGHBOUR: 'it returns false'. Refute it at one input. -/
def fnExactFlatProfileWrong : ChangeSpec := { name := "fnExactFlatProfile", fn := fun _ => fun
  | [] => { results := [.lit (.bool false)], args := [] }
  | _ => none }
def FnExactFlatProfileWrongFalsely : Prop := fnExactFlatProfileRow.holds Try.pinned (OpenSpec.ofChange fnExactFlatProfileWrong)

/-- 'laws.FnExactIsValidProfile': WHATEVER THE INPUT: true; the input reads as it did. -/
def fnExactIsValidProfileSpec : ChangeSpec := { name := "fnExactIsValidProfile", fn := fun _ => fun
  | [d] => { results := [.lit (.bool true)], args := [d] }
  | _ => none }
def fnExactIsValidProfileRow : OpenClaim := { program := "ytanedebkpcpknaa", sum := "f55d70b5fad62f8cd0674bae452480c59a52b969b6d96bc10168a317d4df0df2", func := "loop.example/g00853/laws.FnExactIsValidProfile", spec := "fnExactIsValidProfile", unfollowed := true, recurses := true, apart := false }
def FnExactIsValidProfileSaid : Prop := fnExactIsValidProfileRow.holds Try.pinned (OpenSpec.ofChange fnExactIsValidProfileSpec)

/-- ITS FALSE NEIGHBOUR: 'it returns false'. Refute it at one input. -/
def fnExactIsValidProfileWrong : ChangeSpec := { name := "fnExactIsValidProfile", fn := fun _ => fun
  | [d] => { results := [.lit (.bool false)], args := [d] }
  | _ => none }
def FnExactIsValidProfileWrongFalsely : Prop := fnExactIsValidProfileRow.holds Try.pinned (OpenSpec.ofChange fnExactIsValidProfileWrong)

/-- 'laws.FnExactQuietestHours': WHATEVER THE INPUT: true; the input reads as it did. -/
def fnExactQuietestHoursSpec : ChangeSpec := { name := "fnExactQuietestHours", fn := fun _ => fun
  | [d1, d2] => { results := [.lit (.bool true)], args := [d1, d2] }
  | _ => none }
def fnExactQuietestHoursRow : OpenClaim := { program := "ytanedebkpcpknaa", sum := "f55d70b5fad62f8cd0674bae452480c59a52b969b6d96bc10168a317d4df0df2", func := "loop.example/g00853/laws.FnExactQuietestHours", spec := "fnExactQuietestHours", unfollowed := true, recurses := true, apart := false }
def FnExactQuietestHoursSaid : Prop := fnExactQuietestHoursRow.holds Try.pinned (OpenSpec.ofChange fnExactQuietestHoursSpec)

/-- ITS FALSE NEIGHBOUR: 'it returns false'. Refute it at one input. -/
def fnExactQuietestHoursWrong : ChangeSpec := { name := "fnExactQuietestHours", fn := fun _ => fun
  | [d1, d2] => { results := [.lit (.bool false)], args := [d1, d2] }
  | _ => none }
def FnExactQuietestHoursWrongFalsely : Prop := fnExactQuietestHoursRow.holds Try.pinned (OpenSpec.ofChange fnExactQuietestHoursWrong)

/-- 'laws.FnExactMixProfiles': WHATEVER THE INPUT: true; the input reads as it did. -/
def fnExactMixProfilesSpec : ChangeSpec := { name := "fnExactMixProfiles", fn := fun _ => fun
  | [d1, d2, d3] => { results := [.lit (.bool true)], args := [d1, d2, d3] }
  | _ => none }
def fnExactMixProfilesRow : OpenClaim := { program := "ytanedebkpcpknaa", sum := "f55d70b5fad62f8cd0674bae452480c59a52b969b6d96bc10168a317d4df0df2", func := "loop.example/g00853/laws.FnExactMixProfiles", spec := "fnExactMixProfiles", unfollowed := true, recurses := true, apart := false }
def FnExactMixProfilesSaid : Prop := fnExactMixProfilesRow.holds Try.pinned (OpenSpec.ofChange fnExactMixProfilesSpec)

/-- ITS FALSE NEIGHBOUR: 'it returns false'. Refute it at one input. -/
def fnExactMixProfilesWrong : ChangeSpec := { name := "fnExactMixProfiles", fn := fun _ => fun
  | [d1, d2, d3] => { results := [.lit (.bool false)], args := [d1, d2, d3] }
  | _ => none }
def FnExactMixProfilesWrongFalsely : Prop := fnExactMixProfilesRow.holds Try.pinned (OpenSpec.ofChange fnExactMixProfilesWrong)

/-- 'laws.FnExactPeakHour': WHATEVER THE INPUT: true; the input reads as it did. -/
def fnExactPeakHourSpec : ChangeSpec := { name := "fnExactPeakHour", fn := fun _ => fun
  | [d] => { results := [.lit (.bool true)], args := [d] }
  | _ => none }
def fnExactPeakHourRow : OpenClaim := { program := "ytanedebkpcpknaa", sum := "f55d70b5fad62f8cd0674bae452480c59a52b969b6d96bc10168a317d4df0df2", func := "loop.example/g00853/laws.FnExactPeakHour", spec := "fnExactPeakHour", unfollowed := true, recurses := true, apart := false }
def FnExactPeakHourSaid : Prop := fnExactPeakHourRow.holds Try.pinned (OpenSpec.ofChange fnExactPeakHourSpec)

/-- ITS FALSE NEIGHBOUR: 'it returns false'. Refute it at one input. -/
def fnExactPeakHourWrong : ChangeSpec := { name := "fnExactPeakHour", fn := fun _ => fun
  | [d] => { results := [.lit (.bool false)], args := [d] }
  | _ => none }
def FnExactPeakHourWrongFalsely : Prop := fnExactPeakHourRow.holds Try.pinned (OpenSpec.ofChange fnExactPeakHourWrong)

/- THE SECOND FORM. 'bulk': how many values and letters a reading holds, each counted each time it is reached (what is shared counts as often as it is met; a slice's spare places count too). A statement '..UptoSaid' is the law's where the arguments, and the package variables that the reading takes, are together of bulk at most 1048576: NARROWER than '..Said'. Prove '..Said' where nothing that the law and all that it calls make is longer than what came in: it says more and counts as full. Else prove '..UptoSaid'. A law counts once. -/
mutual
def uptoBulk {H : Type} : DataW H → Nat
  | .lit (.string bytes) => bytes.length + 1
  | .lit _ => 1
  | .nil => 1
  | .ptr d => uptoBulk d + 1
  | .slice elems spare => uptoBulkAll elems + uptoBulkAll spare + 1
  | .agg parts => uptoBulkAll parts + 1
  | .iface _ d => uptoBulk d + 1
  | .map entries => uptoBulkEntries entries + 1
  | .held _ => 1
def uptoBulkAll {H : Type} : List (DataW H) → Nat
  | [] => 0
  | d :: r => uptoBulk d + uptoBulkAll r
def uptoBulkEntries {H : Type} : List (Lit × DataW H) → Nat
  | [] => 0
  | x :: r => uptoBulkEntry x + uptoBulkEntries r
def uptoBulkEntry {H : Type} : Lit × DataW H → Nat
  | (.string bytes, d) => bytes.length + uptoBulk d + 1
  | (_, d) => uptoBulk d + 1
 end
def uptoSmall : (H : Type) → List (DataW H) → Bool := fun _ ds => decide (uptoBulkAll ds ≤ 1048576)
def OpenSpec.upto (s : _root_.Go.ChangeSpec) : _root_.Go.OpenSpec := { _root_.Go.OpenSpec.ofChange s with cond := some uptoSmall }

/-- 'laws.FnExactFlatProfile', WHERE WHAT IT READS IS OF BULK AT MOST 1048576: true; the input reads as it did. -/
def fnExactFlatProfileUptoRow : OpenClaim := { program := "ytanedebkpcpknaa", sum := "f55d70b5fad62f8cd0674bae452480c59a52b969b6d96bc10168a317d4df0df2", func := "loop.example/g00853/laws.FnExactFlatProfile", spec := "fnExactFlatProfile", apart := false, narrowed := true }
def FnExactFlatProfileUptoSaid : Prop := fnExactFlatProfileUptoRow.holds Try.pinned (OpenSpec.upto fnExactFlatProfileSpec)

/-- 'laws.FnExactIsValidProfile', WHERE WHAT IT READS IS OF BULK AT MOST 1048576: true; the input reads as it did. -/
def fnExactIsValidProfileUptoRow : OpenClaim := { program := "ytanedebkpcpknaa", sum := "f55d70b5fad62f8cd0674bae452480c59a52b969b6d96bc10168a317d4df0df2", func := "loop.example/g00853/laws.FnExactIsValidProfile", spec := "fnExactIsValidProfile", unfollowed := true, recurses := true, apart := false, narrowed := true }
def FnExactIsValidProfileUptoSaid : Prop := fnExactIsValidProfileUptoRow.holds Try.pinned (OpenSpec.upto fnExactIsValidProfileSpec)

/-- 'laws.FnExactQuietestHours', WHERE WHAT IT READS IS OF BULK AT MOST 1048576: true; the input reads as it did. -/
def fnExactQuietestHoursUptoRow : OpenClaim := { program := "ytanedebkpcpknaa", sum := "f55d70b5fad62f8cd0674bae452480c59a52b969b6d96bc10168a317d4df0df2", func := "loop.example/g00853/laws.FnExactQuietestHours", spec := "fnExactQuietestHours", unfollowed := true, recurses := true, apart := false, narrowed := true }
def FnExactQuietestHoursUptoSaid : Prop := fnExactQuietestHoursUptoRow.holds Try.pinned (OpenSpec.upto fnExactQuietestHoursSpec)

/-- 'laws.FnExactMixProfiles', WHERE WHAT IT READS IS OF BULK AT MOST 1048576: true; the input reads as it did. -/
def fnExactMixProfilesUptoRow : OpenClaim := { program := "ytanedebkpcpknaa", sum := "f55d70b5fad62f8cd0674bae452480c59a52b969b6d96bc10168a317d4df0df2", func := "loop.example/g00853/laws.FnExactMixProfiles", spec := "fnExactMixProfiles", unfollowed := true, recurses := true, apart := false, narrowed := true }
def FnExactMixProfilesUptoSaid : Prop := fnExactMixProfilesUptoRow.holds Try.pinned (OpenSpec.upto fnExactMixProfilesSpec)

/-- 'laws.FnExactPeakHour', WHERE WHAT IT READS IS OF BULK AT MOST 1048576: true; the input reads as it did. -/
def fnExactPeakHourUptoRow : OpenClaim := { program := "ytanedebkpcpknaa", sum := "f55d70b5fad62f8cd0674bae452480c59a52b969b6d96bc10168a317d4df0df2", func := "loop.example/g00853/laws.FnExactPeakHour", spec := "fnExactPeakHour", unfollowed := true, recurses := true, apart := false, narrowed := true }
def FnExactPeakHourUptoSaid : Prop := fnExactPeakHourUptoRow.holds Try.pinned (OpenSpec.upto fnExactPeakHourSpec)

end Rows
end Go.Proofs.Ytanedebkpcpknaa
