/-
  NARROWER THAN 'FOR EVERY INPUT', by the rows' own cells (each row's printed sentence says how): FnExactConvertAmount: laid · FnExactVolumeIn: laid · FnExactAddAmounts: laid · FnExactCompareAmounts: laid · FnExactAmountText: laid · FnExactDecimalText: laid · FnExactParseAmount: laid · FnDecimals: laid · FnAmounts: laid.
  DERIVED. THE GIVEN ROWS OF THIS SEAT. 9 by the template 'for every input the law returns true; each argument reads behind the call as it read before'; 0 by the template 'total and deterministic' (their statements: YtlkphjlabmnjiaaDoorTotals.lean).
  GIVEN WITH THE SEED: the statements are not yours to turn. If you find one false, say at which input.
  Laid BY PROGRAM, IN A SANDBOX (cutbox-rows.mjs): the forced cells as the released guide's own fill.sh prints them over the translation 07a17ef2c1b614e9… (all of the seat's roots in one cut). By AI agents, Wed Nov 11 2026. No macro, syntax, notation, axiom, sorry.
-/
import Derived.Test.YtlkphjlabmnjiaaDoorChecked
import GoSem.Claim
import GoSem.ClaimJoined
import GoSem.ClaimMapViews
import Derived.JoinedTies
import Derived.KernelRfl
namespace Go.Proofs.YtlkphjlabmnjiaaDoor
/- THE CELL 'sum', in the pinned program and in every row, IS THE sha256 OF THE DUMP (.gsa) THAT YtlkphjlabmnjiaaDoorProg.lean LOADS. Nothing in Lean hashes anything: it is a label: what it is worth is what the hold of that sum in a sandbox is worth. -/
noncomputable def Tryd.pinned : Pinned := { name := "ytlkphjlabmnjiaadoor", sum := "07a17ef2c1b614e9afeb4b296010b49ba483d60009b3b4c1bd3bddfa2b78bbd6", checked := Tryd.checked }
namespace Rows
def none {H : Type} : Left H := { results := [], args := [] }

/- WHAT THE LISTED PACKAGE-LEVEL VARIABLES READ AS WHEN THE CALL BEGINS. Each datum BY PROGRAM (the guide's laid-datum.mjs) off the statement by which the dump's own 'gosem.cut.vars' lays the variable. In a bare row this is a premise. The card (YtlkphjlabmnjiaaDoorCards.lean) ties it to the program's text. -/
def laid_loop_example_g00853_impl_unitFlows {H : Type} : DataW H := .agg [.agg [.lit (.int .i64 0), .lit (.int .i64 1)], .agg [.lit (.int .i64 1), .lit (.int .i64 1)], .agg [.lit (.int .i64 60), .lit (.int .i64 1)], .agg [.lit (.int .i64 50), .lit (.int .i64 3)], .agg [.lit (.int .i64 25), .lit (.int .i64 36)]]
def laid_math_bits_deBruijn32tab {H : Type} : DataW H := .agg [.lit (.int .u8 0), .lit (.int .u8 1), .lit (.int .u8 28), .lit (.int .u8 2), .lit (.int .u8 29), .lit (.int .u8 14), .lit (.int .u8 24), .lit (.int .u8 3), .lit (.int .u8 30), .lit (.int .u8 22), .lit (.int .u8 20), .lit (.int .u8 15), .lit (.int .u8 25), .lit (.int .u8 17), .lit (.int .u8 4), .lit (.int .u8 8), .lit (.int .u8 31), .lit (.int .u8 27), .lit (.int .u8 13), .lit (.int .u8 23), .lit (.int .u8 21), .lit (.int .u8 19), .lit (.int .u8 16), .lit (.int .u8 7), .lit (.int .u8 26), .lit (.int .u8 12), .lit (.int .u8 18), .lit (.int .u8 6), .lit (.int .u8 11), .lit (.int .u8 5), .lit (.int .u8 10), .lit (.int .u8 9)]
def laid_math_bits_deBruijn64tab {H : Type} : DataW H := .agg [.lit (.int .u8 0), .lit (.int .u8 1), .lit (.int .u8 56), .lit (.int .u8 2), .lit (.int .u8 57), .lit (.int .u8 49), .lit (.int .u8 28), .lit (.int .u8 3), .lit (.int .u8 61), .lit (.int .u8 58), .lit (.int .u8 42), .lit (.int .u8 50), .lit (.int .u8 38), .lit (.int .u8 29), .lit (.int .u8 17), .lit (.int .u8 4), .lit (.int .u8 62), .lit (.int .u8 47), .lit (.int .u8 59), .lit (.int .u8 36), .lit (.int .u8 45), .lit (.int .u8 43), .lit (.int .u8 51), .lit (.int .u8 22), .lit (.int .u8 53), .lit (.int .u8 39), .lit (.int .u8 33), .lit (.int .u8 30), .lit (.int .u8 24), .lit (.int .u8 18), .lit (.int .u8 12), .lit (.int .u8 5), .lit (.int .u8 63), .lit (.int .u8 55), .lit (.int .u8 48), .lit (.int .u8 27), .lit (.int .u8 60), .lit (.int .u8 41), .lit (.int .u8 37), .lit (.int .u8 16), .lit (.int .u8 46), .lit (.int .u8 35), .lit (.int .u8 44), .lit (.int .u8 21), .lit (.int .u8 52), .lit (.int .u8 32), .lit (.int .u8 23), .lit (.int .u8 11), .lit (.int .u8 54), .lit (.int .u8 26), .lit (.int .u8 40), .lit (.int .u8 15), .lit (.int .u8 34), .lit (.int .u8 20), .lit (.int .u8 31), .lit (.int .u8 10), .lit (.int .u8 25), .lit (.int .u8 14), .lit (.int .u8 19), .lit (.int .u8 9), .lit (.int .u8 13), .lit (.int .u8 8), .lit (.int .u8 7), .lit (.int .u8 6)]
def laid_internal_strconv_uint64pow10 {H : Type} : DataW H := .agg [.lit (.int .u64 1), .lit (.int .u64 10), .lit (.int .u64 100), .lit (.int .u64 1000), .lit (.int .u64 10000), .lit (.int .u64 100000), .lit (.int .u64 1000000), .lit (.int .u64 10000000), .lit (.int .u64 100000000), .lit (.int .u64 1000000000), .lit (.int .u64 10000000000), .lit (.int .u64 100000000000), .lit (.int .u64 1000000000000), .lit (.int .u64 10000000000000), .lit (.int .u64 100000000000000), .lit (.int .u64 1000000000000000), .lit (.int .u64 10000000000000000), .lit (.int .u64 100000000000000000), .lit (.int .u64 1000000000000000000), .lit (.int .u64 10000000000000000000)]
def laid_loop_example_g00853_impl_unitNames {H : Type} : DataW H := .agg [.lit (.string []), .lit (.string [108, 47, 109, 105, 110]), .lit (.string [108, 47, 115]), .lit (.string [109, 51, 47, 104]), .lit (.string [109, 51, 47, 100])]
def laid_strconv_ErrRange {H : Type} : DataW H := .iface "*errors.errorString" (.ptr (.agg [.lit (.string [118, 97, 108, 117, 101, 32, 111, 117, 116, 32, 111, 102, 32, 114, 97, 110, 103, 101])]))
def laid_strconv_ErrSyntax {H : Type} : DataW H := .iface "*errors.errorString" (.ptr (.agg [.lit (.string [105, 110, 118, 97, 108, 105, 100, 32, 115, 121, 110, 116, 97, 120])]))

/-- 'laws.FnExactConvertAmount': WHATEVER THE INPUT: true; the input reads as it did. -/
def fnExactConvertAmountSpec : ChangeSpec := { name := "fnExactConvertAmount", vars := ["loop.example/g00853/impl.unitFlows"], fn := fun _ => fun
  | [d1, d2, g1] => { results := [.lit (.bool true)], args := [d1, d2], vars := [g1] }
  | _ => none }
def fnExactConvertAmountRow : OpenClaim := { program := "ytlkphjlabmnjiaadoor", sum := "07a17ef2c1b614e9afeb4b296010b49ba483d60009b3b4c1bd3bddfa2b78bbd6", func := "loop.example/g00853/laws.FnExactConvertAmount", spec := "fnExactConvertAmount", named := ["loop.example/g00853/impl.unitFlows"], apart := false, laid := [("loop.example/g00853/impl.unitFlows", laid_loop_example_g00853_impl_unitFlows)] }
def FnExactConvertAmountSaid : Prop := fnExactConvertAmountRow.holds Tryd.pinned (OpenSpec.ofChange fnExactConvertAmountSpec)

/-- ITS FALSE NEIGHBOUR: 'it returns false'. Refute it at one input. -/
def fnExactConvertAmountWrong : ChangeSpec := { name := "fnExactConvertAmount", vars := ["loop.example/g00853/impl.unitFlows"], fn := fun _ => fun
  | [d1, d2, g1] => { results := [.lit (.bool false)], args := [d1, d2], vars := [g1] }
  | _ => none }
def FnExactConvertAmountWrongFalsely : Prop := fnExactConvertAmountRow.holds Tryd.pinned (OpenSpec.ofChange fnExactConvertAmountWrong)

/-- 'laws.FnExactVolumeIn': WHATEVER THE INPUT: true; the input reads as it did. -/
def fnExactVolumeInSpec : ChangeSpec := { name := "fnExactVolumeIn", vars := ["loop.example/g00853/impl.unitFlows"], fn := fun _ => fun
  | [d1, d2, g1] => { results := [.lit (.bool true)], args := [d1, d2], vars := [g1] }
  | _ => none }
def fnExactVolumeInRow : OpenClaim := { program := "ytlkphjlabmnjiaadoor", sum := "07a17ef2c1b614e9afeb4b296010b49ba483d60009b3b4c1bd3bddfa2b78bbd6", func := "loop.example/g00853/laws.FnExactVolumeIn", spec := "fnExactVolumeIn", named := ["loop.example/g00853/impl.unitFlows"], apart := false, laid := [("loop.example/g00853/impl.unitFlows", laid_loop_example_g00853_impl_unitFlows)] }
def FnExactVolumeInSaid : Prop := fnExactVolumeInRow.holds Tryd.pinned (OpenSpec.ofChange fnExactVolumeInSpec)

/-- ITS FALSE NEIGHBOUR: 'it returns false'. Refute it at one input. -/
def fnExactVolumeInWrong : ChangeSpec := { name := "fnExactVolumeIn", vars := ["loop.example/g00853/impl.unitFlows"], fn := fun _ => fun
  | [d1, d2, g1] => { results := [.lit (.bool false)], args := [d1, d2], vars := [g1] }
  | _ => none }
def FnExactVolumeInWrongFalsely : Prop := fnExactVolumeInRow.holds Tryd.pinned (OpenSpec.ofChange fnExactVolumeInWrong)

/-- 'laws.FnExactAddAmounts': WHATEVER THE INPUT: true; the input reads as it did. -/
def fnExactAddAmountsSpec : ChangeSpec := { name := "fnExactAddAmounts", vars := ["loop.example/g00853/impl.unitFlows"], fn := fun _ => fun
  | [d1, d2, d3, g1] => { results := [.lit (.bool true)], args := [d1, d2, d3], vars := [g1] }
  | _ => none }
def fnExactAddAmountsRow : OpenClaim := { program := "ytlkphjlabmnjiaadoor", sum := "07a17ef2c1b614e9afeb4b296010b49ba483d60009b3b4c1bd3bddfa2b78bbd6", func := "loop.example/g00853/laws.FnExactAddAmounts", spec := "fnExactAddAmounts", named := ["loop.example/g00853/impl.unitFlows"], apart := false, laid := [("loop.example/g00853/impl.unitFlows", laid_loop_example_g00853_impl_unitFlows)] }
def FnExactAddAmountsSaid : Prop := fnExactAddAmountsRow.holds Tryd.pinned (OpenSpec.ofChange fnExactAddAmountsSpec)

/-- ITS FALSE NEIGHBOUR: 'it returns false'. Refute it at one input. -/
def fnExactAddAmountsWrong : ChangeSpec := { name := "fnExactAddAmounts", vars := ["loop.example/g00853/impl.unitFlows"], fn := fun _ => fun
  | [d1, d2, d3, g1] => { results := [.lit (.bool false)], args := [d1, d2, d3], vars := [g1] }
  | _ => none }
def FnExactAddAmountsWrongFalsely : Prop := fnExactAddAmountsRow.holds Tryd.pinned (OpenSpec.ofChange fnExactAddAmountsWrong)

/-- 'laws.FnExactCompareAmounts': WHATEVER THE INPUT: true; the input reads as it did. -/
def fnExactCompareAmountsSpec : ChangeSpec := { name := "fnExactCompareAmounts", vars := ["loop.example/g00853/impl.unitFlows"], fn := fun _ => fun
  | [d1, d2, g1] => { results := [.lit (.bool true)], args := [d1, d2], vars := [g1] }
  | _ => none }
def fnExactCompareAmountsRow : OpenClaim := { program := "ytlkphjlabmnjiaadoor", sum := "07a17ef2c1b614e9afeb4b296010b49ba483d60009b3b4c1bd3bddfa2b78bbd6", func := "loop.example/g00853/laws.FnExactCompareAmounts", spec := "fnExactCompareAmounts", named := ["loop.example/g00853/impl.unitFlows"], apart := false, laid := [("loop.example/g00853/impl.unitFlows", laid_loop_example_g00853_impl_unitFlows)] }
def FnExactCompareAmountsSaid : Prop := fnExactCompareAmountsRow.holds Tryd.pinned (OpenSpec.ofChange fnExactCompareAmountsSpec)

/-- ITS FALSE NEIGHBOUR: 'it returns false'. Refute it at one input. -/
def fnExactCompareAmountsWrong : ChangeSpec := { name := "fnExactCompareAmounts", vars := ["loop.example/g00853/impl.unitFlows"], fn := fun _ => fun
  | [d1, d2, g1] => { results := [.lit (.bool false)], args := [d1, d2], vars := [g1] }
  | _ => none }
def FnExactCompareAmountsWrongFalsely : Prop := fnExactCompareAmountsRow.holds Tryd.pinned (OpenSpec.ofChange fnExactCompareAmountsWrong)

/-- 'laws.FnExactAmountText': WHATEVER THE INPUT: true; the input reads as it did. -/
def fnExactAmountTextSpec : ChangeSpec := { name := "fnExactAmountText", vars := ["loop.example/g00853/impl.unitNames"], fn := fun _ => fun
  | [d, g1] => { results := [.lit (.bool true)], args := [d], vars := [g1] }
  | _ => none }
def fnExactAmountTextRow : OpenClaim := { program := "ytlkphjlabmnjiaadoor", sum := "07a17ef2c1b614e9afeb4b296010b49ba483d60009b3b4c1bd3bddfa2b78bbd6", func := "loop.example/g00853/laws.FnExactAmountText", spec := "fnExactAmountText", recurses := true, named := ["loop.example/g00853/impl.unitNames", "internal/strconv.uint64pow10", "math/bits.deBruijn32tab", "math/bits.deBruijn64tab"], apart := false, laid := [("math/bits.deBruijn32tab", laid_math_bits_deBruijn32tab), ("math/bits.deBruijn64tab", laid_math_bits_deBruijn64tab), ("internal/strconv.uint64pow10", laid_internal_strconv_uint64pow10), ("loop.example/g00853/impl.unitNames", laid_loop_example_g00853_impl_unitNames)] }
def FnExactAmountTextSaid : Prop := fnExactAmountTextRow.holds Tryd.pinned (OpenSpec.ofChange fnExactAmountTextSpec)

/-- ITS FALSE NEIGHBOUR: 'it returns false'. Refute it at one input. -/
def fnExactAmountTextWrong : ChangeSpec := { name := "fnExactAmountText", vars := ["loop.example/g00853/impl.unitNames"], fn := fun _ => fun
  | [d, g1] => { results := [.lit (.bool false)], args := [d], vars := [g1] }
  | _ => none }
def FnExactAmountTextWrongFalsely : Prop := fnExactAmountTextRow.holds Tryd.pinned (OpenSpec.ofChange fnExactAmountTextWrong)

/-- 'laws.FnExactDecimalText': WHATEVER THE INPUT: true; the input reads as it did. -/
def fnExactDecimalTextSpec : ChangeSpec := { name := "fnExactDecimalText", fn := fun _ => fun
  | [d1, d2, d3] => { results := [.lit (.bool true)], args := [d1, d2, d3] }
  | _ => none }
def fnExactDecimalTextRow : OpenClaim := { program := "ytlkphjlabmnjiaadoor", sum := "07a17ef2c1b614e9afeb4b296010b49ba483d60009b3b4c1bd3bddfa2b78bbd6", func := "loop.example/g00853/laws.FnExactDecimalText", spec := "fnExactDecimalText", named := ["internal/strconv.uint64pow10", "math/bits.deBruijn32tab", "math/bits.deBruijn64tab"], apart := false, laid := [("math/bits.deBruijn32tab", laid_math_bits_deBruijn32tab), ("math/bits.deBruijn64tab", laid_math_bits_deBruijn64tab), ("internal/strconv.uint64pow10", laid_internal_strconv_uint64pow10)] }
def FnExactDecimalTextSaid : Prop := fnExactDecimalTextRow.holds Tryd.pinned (OpenSpec.ofChange fnExactDecimalTextSpec)

/-- ITS FALSE NEIGHBOUR: 'it returns false'. Refute it at one input. -/
def fnExactDecimalTextWrong : ChangeSpec := { name := "fnExactDecimalText", fn := fun _ => fun
  | [d1, d2, d3] => { results := [.lit (.bool false)], args := [d1, d2, d3] }
  | _ => none }
def FnExactDecimalTextWrongFalsely : Prop := fnExactDecimalTextRow.holds Tryd.pinned (OpenSpec.ofChange fnExactDecimalTextWrong)

/-- 'laws.FnExactParseAmount': WHATEVER THE INPUT: true; the input reads as it did. -/
def fnExactParseAmountSpec : ChangeSpec := { name := "fnExactParseAmount", vars := ["loop.example/g00853/impl.unitNames"], fn := fun _ => fun
  | [d, g1] => { results := [.lit (.bool true)], args := [d], vars := [g1] }
  | _ => none }
def fnExactParseAmountRow : OpenClaim := { program := "ytlkphjlabmnjiaadoor", sum := "07a17ef2c1b614e9afeb4b296010b49ba483d60009b3b4c1bd3bddfa2b78bbd6", func := "loop.example/g00853/laws.FnExactParseAmount", spec := "fnExactParseAmount", inPlace := ["internal/bytealg.IndexByteString", "internal/bytealg.IndexString"], recurses := true, named := ["loop.example/g00853/impl.unitNames", "internal/bytealg.MaxLen", "strconv.ErrSyntax", "strconv.ErrRange", "internal/strconv.uint64pow10", "math/bits.deBruijn32tab", "math/bits.deBruijn64tab"], apart := false, laid := [("math/bits.deBruijn32tab", laid_math_bits_deBruijn32tab), ("math/bits.deBruijn64tab", laid_math_bits_deBruijn64tab), ("internal/strconv.uint64pow10", laid_internal_strconv_uint64pow10), ("strconv.ErrRange", laid_strconv_ErrRange), ("strconv.ErrSyntax", laid_strconv_ErrSyntax), ("loop.example/g00853/impl.unitNames", laid_loop_example_g00853_impl_unitNames)] }
def FnExactParseAmountSaid : Prop := fnExactParseAmountRow.holds Tryd.pinned (OpenSpec.ofChange fnExactParseAmountSpec)

/-- ITS FALSE NEIGHBOUR: 'it returns false'. Refute it at one input. -/
def fnExactParseAmountWrong : ChangeSpec := { name := "fnExactParseAmount", vars := ["loop.example/g00853/impl.unitNames"], fn := fun _ => fun
  | [d, g1] => { results := [.lit (.bool false)], args := [d], vars := [g1] }
  | _ => none }
def FnExactParseAmountWrongFalsely : Prop := fnExactParseAmountRow.holds Tryd.pinned (OpenSpec.ofChange fnExactParseAmountWrong)

/-- 'laws.FnDecimals': WHATEVER THE INPUT: true; the input reads as it did. -/
def fnDecimalsSpec : ChangeSpec := { name := "fnDecimals", vars := ["loop.example/g00853/impl.unitFlows"], fn := fun _ => fun
  | [d, g1] => { results := [.lit (.bool true)], args := [d], vars := [g1] }
  | _ => none }
def fnDecimalsRow : OpenClaim := { program := "ytlkphjlabmnjiaadoor", sum := "07a17ef2c1b614e9afeb4b296010b49ba483d60009b3b4c1bd3bddfa2b78bbd6", func := "loop.example/g00853/laws.FnDecimals", spec := "fnDecimals", named := ["internal/strconv.uint64pow10", "math/bits.deBruijn32tab", "math/bits.deBruijn64tab", "loop.example/g00853/impl.unitFlows"], apart := false, laid := [("math/bits.deBruijn32tab", laid_math_bits_deBruijn32tab), ("math/bits.deBruijn64tab", laid_math_bits_deBruijn64tab), ("internal/strconv.uint64pow10", laid_internal_strconv_uint64pow10), ("loop.example/g00853/impl.unitFlows", laid_loop_example_g00853_impl_unitFlows)] }
def FnDecimalsSaid : Prop := fnDecimalsRow.holds Tryd.pinned (OpenSpec.ofChange fnDecimalsSpec)

/-- ITS FALSE NEIGHBOUR: 'it returns false'. Refute it at one input. -/
def fnDecimalsWrong : ChangeSpec := { name := "fnDecimals", vars := ["loop.example/g00853/impl.unitFlows"], fn := fun _ => fun
  | [d, g1] => { results := [.lit (.bool false)], args := [d], vars := [g1] }
  | _ => none }
def FnDecimalsWrongFalsely : Prop := fnDecimalsRow.holds Tryd.pinned (OpenSpec.ofChange fnDecimalsWrong)

/-- 'laws.FnAmounts': WHATEVER THE INPUT: true; the input reads as it did. -/
def fnAmountsSpec : ChangeSpec := { name := "fnAmounts", vars := ["loop.example/g00853/impl.unitNames", "loop.example/g00853/impl.unitFlows"], fn := fun _ => fun
  | [d, g1, g2] => { results := [.lit (.bool true)], args := [d], vars := [g1, g2] }
  | _ => none }
def fnAmountsRow : OpenClaim := { program := "ytlkphjlabmnjiaadoor", sum := "07a17ef2c1b614e9afeb4b296010b49ba483d60009b3b4c1bd3bddfa2b78bbd6", func := "loop.example/g00853/laws.FnAmounts", spec := "fnAmounts", inPlace := ["internal/bytealg.IndexByteString", "internal/bytealg.IndexString"], recurses := true, named := ["loop.example/g00853/impl.unitNames", "internal/strconv.uint64pow10", "math/bits.deBruijn32tab", "math/bits.deBruijn64tab", "internal/bytealg.MaxLen", "strconv.ErrSyntax", "strconv.ErrRange", "loop.example/g00853/impl.unitFlows"], apart := false, laid := [("math/bits.deBruijn32tab", laid_math_bits_deBruijn32tab), ("math/bits.deBruijn64tab", laid_math_bits_deBruijn64tab), ("internal/strconv.uint64pow10", laid_internal_strconv_uint64pow10), ("strconv.ErrRange", laid_strconv_ErrRange), ("strconv.ErrSyntax", laid_strconv_ErrSyntax), ("loop.example/g00853/impl.unitNames", laid_loop_example_g00853_impl_unitNames), ("loop.example/g00853/impl.unitFlows", laid_loop_example_g00853_impl_unitFlows)] }
def FnAmountsSaid : Prop := fnAmountsRow.holds Tryd.pinned (OpenSpec.ofChange fnAmountsSpec)

/-- ITS FALSE NEIGHBOUR: 'it returns false'. Refute it at one input. -/
def fnAmountsWrong : ChangeSpec := { name := "fnAmounts", vars := ["loop.example/g00853/impl.unitNames", "loop.example/g00853/impl.unitFlows"], fn := fun _ => fun
  | [d, g1, g2] => { results := [.lit (.bool false)], args := [d], vars := [g1, g2] }
  | _ => none }
def FnAmountsWrongFalsely : Prop := fnAmountsRow.holds Tryd.pinned (OpenSpec.ofChange fnAmountsWrong)

/- THE SECOND FORM. 'bulk': how many values and letters a reading holds, each counted each time it is reached (what is shared counts as often as it is met; a slice's spare places count too). A statement '..UptoSaid' is the law's where the arguments, and the package variables that the reading takes, are together of bulk at most 1048576: NARROWER than '..Said'. Prove '..Said' where nothing that the law and all that it calls make is longer than what came in: it says more and counts as full. Else prove '..UptoSaid'. A law counts once. -/
mutual
def uptoBulk {H : Type} : DataW H → Nat
  | .lit (.string bytes) => bytes.length + 1
  | .lit _ => 1
  | .nil => 1
  | .ptr d => uptoBulk d + 1
  | .slice elems spare => uptoBulkAll elems + uptoBulkAll spare + 1
  | .agg parts => uptoBulkAll parts + 1
  | .iface _ d => uptoBulk d + 1
  | .map entries => uptoBulkEntries entries + 1
  | .held _ => 1
def uptoBulkAll {H : Type} : List (DataW H) → Nat
  | [] => 0
  | d :: r => uptoBulk d + uptoBulkAll r
def uptoBulkEntries {H : Type} : List (Lit × DataW H) → Nat
  | [] => 0
  | x :: r => uptoBulkEntry x + uptoBulkEntries r
def uptoBulkEntry {H : Type} : Lit × DataW H → Nat
  | (.string bytes, d) => bytes.length + uptoBulk d + 1
  | (_, d) => uptoBulk d + 1
 end
def uptoSmall : (H : Type) → List (DataW H) → Bool := fun _ ds => decide (uptoBulkAll ds ≤ 1048576)
def OpenSpec.upto (s : _root_.Go.ChangeSpec) : _root_.Go.OpenSpec := { _root_.Go.OpenSpec.ofChange s with cond := some uptoSmall }

/-- 'laws.FnExactConvertAmount', WHERE WHAT IT READS IS OF BULK AT MOST 1048576: true; the input reads as it did. -/
def fnExactConvertAmountUptoRow : OpenClaim := { program := "ytlkphjlabmnjiaadoor", sum := "07a17ef2c1b614e9afeb4b296010b49ba483d60009b3b4c1bd3bddfa2b78bbd6", func := "loop.example/g00853/laws.FnExactConvertAmount", spec := "fnExactConvertAmount", named := ["loop.example/g00853/impl.unitFlows"], apart := false, laid := [("loop.example/g00853/impl.unitFlows", laid_loop_example_g00853_impl_unitFlows)], narrowed := true }
def FnExactConvertAmountUptoSaid : Prop := fnExactConvertAmountUptoRow.holds Tryd.pinned (OpenSpec.upto fnExactConvertAmountSpec)

/-- 'laws.FnExactVolumeIn', WHERE WHAT IT READS IS OF BULK AT MOST 1048576: true; the input reads as it did. -/
def fnExactVolumeInUptoRow : OpenClaim := { program := "ytlkphjlabmnjiaadoor", sum := "07a17ef2c1b614e9afeb4b296010b49ba483d60009b3b4c1bd3bddfa2b78bbd6", func := "loop.example/g00853/laws.FnExactVolumeIn", spec := "fnExactVolumeIn", named := ["loop.example/g00853/impl.unitFlows"], apart := false, laid := [("loop.example/g00853/impl.unitFlows", laid_loop_example_g00853_impl_unitFlows)], narrowed := true }
def FnExactVolumeInUptoSaid : Prop := fnExactVolumeInUptoRow.holds Tryd.pinned (OpenSpec.upto fnExactVolumeInSpec)

/-- 'laws.FnExactAddAmounts', WHERE WHAT IT READS IS OF BULK AT MOST 1048576: true; the input reads as it did. -/
def fnExactAddAmountsUptoRow : OpenClaim := { program := "ytlkphjlabmnjiaadoor", sum := "07a17ef2c1b614e9afeb4b296010b49ba483d60009b3b4c1bd3bddfa2b78bbd6", func := "loop.example/g00853/laws.FnExactAddAmounts", spec := "fnExactAddAmounts", named := ["loop.example/g00853/impl.unitFlows"], apart := false, laid := [("loop.example/g00853/impl.unitFlows", laid_loop_example_g00853_impl_unitFlows)], narrowed := true }
def FnExactAddAmountsUptoSaid : Prop := fnExactAddAmountsUptoRow.holds Tryd.pinned (OpenSpec.upto fnExactAddAmountsSpec)

/-- 'laws.FnExactCompareAmounts', WHERE WHAT IT READS IS OF BULK AT MOST 1048576: true; the input reads as it did. -/
def fnExactCompareAmountsUptoRow : OpenClaim := { program := "ytlkphjlabmnjiaadoor", sum := "07a17ef2c1b614e9afeb4b296010b49ba483d60009b3b4c1bd3bddfa2b78bbd6", func := "loop.example/g00853/laws.FnExactCompareAmounts", spec := "fnExactCompareAmounts", named := ["loop.example/g00853/impl.unitFlows"], apart := false, laid := [("loop.example/g00853/impl.unitFlows", laid_loop_example_g00853_impl_unitFlows)], narrowed := true }
def FnExactCompareAmountsUptoSaid : Prop := fnExactCompareAmountsUptoRow.holds Tryd.pinned (OpenSpec.upto fnExactCompareAmountsSpec)

/-- 'laws.FnExactAmountText', WHERE WHAT IT READS IS OF BULK AT MOST 1048576: true; the input reads as it did. -/
def fnExactAmountTextUptoRow : OpenClaim := { program := "ytlkphjlabmnjiaadoor", sum := "07a17ef2c1b614e9afeb4b296010b49ba483d60009b3b4c1bd3bddfa2b78bbd6", func := "loop.example/g00853/laws.FnExactAmountText", spec := "fnExactAmountText", recurses := true, named := ["loop.example/g00853/impl.unitNames", "internal/strconv.uint64pow10", "math/bits.deBruijn32tab", "math/bits.deBruijn64tab"], apart := false, laid := [("math/bits.deBruijn32tab", laid_math_bits_deBruijn32tab), ("math/bits.deBruijn64tab", laid_math_bits_deBruijn64tab), ("internal/strconv.uint64pow10", laid_internal_strconv_uint64pow10), ("loop.example/g00853/impl.unitNames", laid_loop_example_g00853_impl_unitNames)], narrowed := true }
def FnExactAmountTextUptoSaid : Prop := fnExactAmountTextUptoRow.holds Tryd.pinned (OpenSpec.upto fnExactAmountTextSpec)

/-- 'laws.FnExactDecimalText', WHERE WHAT IT READS IS OF BULK AT MOST 1048576: true; the input reads as it did. -/
def fnExactDecimalTextUptoRow : OpenClaim := { program := "ytlkphjlabmnjiaadoor", sum := "07a17ef2c1b614e9afeb4b296010b49ba483d60009b3b4c1bd3bddfa2b78bbd6", func := "loop.example/g00853/laws.FnExactDecimalText", spec := "fnExactDecimalText", named := ["internal/strconv.uint64pow10", "math/bits.deBruijn32tab", "math/bits.deBruijn64tab"], apart := false, laid := [("math/bits.deBruijn32tab", laid_math_bits_deBruijn32tab), ("math/bits.deBruijn64tab", laid_math_bits_deBruijn64tab), ("internal/strconv.uint64pow10", laid_internal_strconv_uint64pow10)], narrowed := true }
def FnExactDecimalTextUptoSaid : Prop := fnExactDecimalTextUptoRow.holds Tryd.pinned (OpenSpec.upto fnExactDecimalTextSpec)

/-- 'laws.FnExactParseAmount', WHERE WHAT IT READS IS OF BULK AT MOST 1048576: true; the input reads as it did. -/
def fnExactParseAmountUptoRow : OpenClaim := { program := "ytlkphjlabmnjiaadoor", sum := "07a17ef2c1b614e9afeb4b296010b49ba483d60009b3b4c1bd3bddfa2b78bbd6", func := "loop.example/g00853/laws.FnExactParseAmount", spec := "fnExactParseAmount", inPlace := ["internal/bytealg.IndexByteString", "internal/bytealg.IndexString"], recurses := true, named := ["loop.example/g00853/impl.unitNames", "internal/bytealg.MaxLen", "strconv.ErrSyntax", "strconv.ErrRange", "internal/strconv.uint64pow10", "math/bits.deBruijn32tab", "math/bits.deBruijn64tab"], apart := false, laid := [("math/bits.deBruijn32tab", laid_math_bits_deBruijn32tab), ("math/bits.deBruijn64tab", laid_math_bits_deBruijn64tab), ("internal/strconv.uint64pow10", laid_internal_strconv_uint64pow10), ("strconv.ErrRange", laid_strconv_ErrRange), ("strconv.ErrSyntax", laid_strconv_ErrSyntax), ("loop.example/g00853/impl.unitNames", laid_loop_example_g00853_impl_unitNames)], narrowed := true }
def FnExactParseAmountUptoSaid : Prop := fnExactParseAmountUptoRow.holds Tryd.pinned (OpenSpec.upto fnExactParseAmountSpec)

/-- 'laws.FnDecimals', WHERE WHAT IT READS IS OF BULK AT MOST 1048576: true; the input reads as it did. -/
def fnDecimalsUptoRow : OpenClaim := { program := "ytlkphjlabmnjiaadoor", sum := "07a17ef2c1b614e9afeb4b296010b49ba483d60009b3b4c1bd3bddfa2b78bbd6", func := "loop.example/g00853/laws.FnDecimals", spec := "fnDecimals", named := ["internal/strconv.uint64pow10", "math/bits.deBruijn32tab", "math/bits.deBruijn64tab", "loop.example/g00853/impl.unitFlows"], apart := false, laid := [("math/bits.deBruijn32tab", laid_math_bits_deBruijn32tab), ("math/bits.deBruijn64tab", laid_math_bits_deBruijn64tab), ("internal/strconv.uint64pow10", laid_internal_strconv_uint64pow10), ("loop.example/g00853/impl.unitFlows", laid_loop_example_g00853_impl_unitFlows)], narrowed := true }
def FnDecimalsUptoSaid : Prop := fnDecimalsUptoRow.holds Tryd.pinned (OpenSpec.upto fnDecimalsSpec)

/-- 'laws.FnAmounts', WHERE WHAT IT READS IS OF BULK AT MOST 1048576: true; the input reads as it did. -/
def fnAmountsUptoRow : OpenClaim := { program := "ytlkphjlabmnjiaadoor", sum := "07a17ef2c1b614e9afeb4b296010b49ba483d60009b3b4c1bd3bddfa2b78bbd6", func := "loop.example/g00853/laws.FnAmounts", spec := "fnAmounts", inPlace := ["internal/bytealg.IndexByteString", "internal/bytealg.IndexString"], recurses := true, named := ["loop.example/g00853/impl.unitNames", "internal/strconv.uint64pow10", "math/bits.deBruijn32tab", "math/bits.deBruijn64tab", "internal/bytealg.MaxLen", "strconv.ErrSyntax", "strconv.ErrRange", "loop.example/g00853/impl.unitFlows"], apart := false, laid := [("math/bits.deBruijn32tab", laid_math_bits_deBruijn32tab), ("math/bits.deBruijn64tab", laid_math_bits_deBruijn64tab), ("internal/strconv.uint64pow10", laid_internal_strconv_uint64pow10), ("strconv.ErrRange", laid_strconv_ErrRange), ("strconv.ErrSyntax", laid_strconv_ErrSyntax), ("loop.example/g00853/impl.unitNames", laid_loop_example_g00853_impl_unitNames), ("loop.example/g00853/impl.unitFlows", laid_loop_example_g00853_impl_unitFlows)], narrowed := true }
def FnAmountsUptoSaid : Prop := fnAmountsUptoRow.holds Tryd.pinned (OpenSpec.upto fnAmountsSpec)

end Rows
end Go.Proofs.YtlkphjlabmnjiaaDoor
