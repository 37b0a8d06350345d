/-
  DERIVED. GIVEN WITH THE SEED: THE CARDS: each row of YtlkphjlabmnjiaaDoorRows.lean that lists a variable, with what it lists TIED to the program's text (the seventh form; the later family's looks); each row that meets fmt, with fmt's text TOLD by the authors' own Lean function (tested against real Go, not proved from fmt's source: count such statements apart). THE CARD IS WHAT COUNTS. Prove the row's statement (the work); the ties are given (YtlkphjlabmnjiaaDoorTie.lean); close each card by the builder's one call (the guide's Derived/Test/ToyasCard.lean, 'card_holds'). Laid BY PROGRAM, IN A SANDBOX (cutbox-door.mjs). By AI agents, Wed Nov 11 2026. No macro, syntax, notation, axiom, sorry.
-/
import Derived.Test.YtlkphjlabmnjiaaDoorRows
import GoSem.ClaimSeven
namespace Go.Proofs.YtlkphjlabmnjiaaDoor
namespace Rows

/-- THE TIED CARD OF 'laws.FnExactConvertAmount'. -/
def fnExactConvertAmountCard : Claim7 := { stood := { row := fnExactConvertAmountRow, standIns := [], harness := (true, "f1103834f0e1cb0e37b7ce63f1f4e1ded5fe46aacab3cd9ef3f7bbd45aeab8d8"), looks := true }, kinds := [], alts := [], laidByText := true, laidKinds := [.data], laidTests := true, laidLooks := .later }
def FnExactConvertAmountCardSaid : Prop := Claim7.holds Tryd.pinned (.plain (OpenSpec.ofChange fnExactConvertAmountSpec)) fnExactConvertAmountCard

/-- THE TIED CARD OF 'laws.FnExactVolumeIn'. -/
def fnExactVolumeInCard : Claim7 := { stood := { row := fnExactVolumeInRow, standIns := [], harness := (true, "f1103834f0e1cb0e37b7ce63f1f4e1ded5fe46aacab3cd9ef3f7bbd45aeab8d8"), looks := true }, kinds := [], alts := [], laidByText := true, laidKinds := [.data], laidTests := true, laidLooks := .later }
def FnExactVolumeInCardSaid : Prop := Claim7.holds Tryd.pinned (.plain (OpenSpec.ofChange fnExactVolumeInSpec)) fnExactVolumeInCard

/-- THE TIED CARD OF 'laws.FnExactAddAmounts'. -/
def fnExactAddAmountsCard : Claim7 := { stood := { row := fnExactAddAmountsRow, standIns := [], harness := (true, "f1103834f0e1cb0e37b7ce63f1f4e1ded5fe46aacab3cd9ef3f7bbd45aeab8d8"), looks := true }, kinds := [], alts := [], laidByText := true, laidKinds := [.data], laidTests := true, laidLooks := .later }
def FnExactAddAmountsCardSaid : Prop := Claim7.holds Tryd.pinned (.plain (OpenSpec.ofChange fnExactAddAmountsSpec)) fnExactAddAmountsCard

/-- THE TIED CARD OF 'laws.FnExactCompareAmounts'. -/
def fnExactCompareAmountsCard : Claim7 := { stood := { row := fnExactCompareAmountsRow, standIns := [], harness := (true, "f1103834f0e1cb0e37b7ce63f1f4e1ded5fe46aacab3cd9ef3f7bbd45aeab8d8"), looks := true }, kinds := [], alts := [], laidByText := true, laidKinds := [.data], laidTests := true, laidLooks := .later }
def FnExactCompareAmountsCardSaid : Prop := Claim7.holds Tryd.pinned (.plain (OpenSpec.ofChange fnExactCompareAmountsSpec)) fnExactCompareAmountsCard

/-- THE TIED CARD OF 'laws.FnExactAmountText'. -/
def fnExactAmountTextCard : Claim7 := { stood := { row := fnExactAmountTextRow, standIns := [], harness := (true, "f1103834f0e1cb0e37b7ce63f1f4e1ded5fe46aacab3cd9ef3f7bbd45aeab8d8"), looks := true }, kinds := [], alts := [], laidByText := true, laidKinds := [.data, .data, .data, .data], laidTests := true, laidLooks := .later }
def FnExactAmountTextCardSaid : Prop := Claim7.holds Tryd.pinned (.plain (OpenSpec.ofChange fnExactAmountTextSpec)) fnExactAmountTextCard

/-- THE TIED CARD OF 'laws.FnExactDecimalText'. -/
def fnExactDecimalTextCard : Claim7 := { stood := { row := fnExactDecimalTextRow, standIns := [], harness := (true, "f1103834f0e1cb0e37b7ce63f1f4e1ded5fe46aacab3cd9ef3f7bbd45aeab8d8"), looks := true }, kinds := [], alts := [], laidByText := true, laidKinds := [.data, .data, .data], laidTests := true, laidLooks := .later }
def FnExactDecimalTextCardSaid : Prop := Claim7.holds Tryd.pinned (.plain (OpenSpec.ofChange fnExactDecimalTextSpec)) fnExactDecimalTextCard

/-- THE TIED CARD OF 'laws.FnExactParseAmount'. -/
def fnExactParseAmountCard : Claim7 := { stood := { row := fnExactParseAmountRow, standIns := [], harness := (true, "f1103834f0e1cb0e37b7ce63f1f4e1ded5fe46aacab3cd9ef3f7bbd45aeab8d8"), looks := true }, kinds := [], alts := [], laidByText := true, laidKinds := [.data, .data, .data, .sentinel, .sentinel, .data], laidTests := true, laidLooks := .later }
def FnExactParseAmountCardSaid : Prop := Claim7.holds Tryd.pinned (.plain (OpenSpec.ofChange fnExactParseAmountSpec)) fnExactParseAmountCard

/-- THE TIED CARD OF 'laws.FnDecimals'. -/
def fnDecimalsCard : Claim7 := { stood := { row := fnDecimalsRow, standIns := [], harness := (true, "f1103834f0e1cb0e37b7ce63f1f4e1ded5fe46aacab3cd9ef3f7bbd45aeab8d8"), looks := true }, kinds := [], alts := [], laidByText := true, laidKinds := [.data, .data, .data, .data], laidTests := true, laidLooks := .later }
def FnDecimalsCardSaid : Prop := Claim7.holds Tryd.pinned (.plain (OpenSpec.ofChange fnDecimalsSpec)) fnDecimalsCard

/-- THE TIED CARD OF 'laws.FnAmounts'. -/
def fnAmountsCard : Claim7 := { stood := { row := fnAmountsRow, standIns := [], harness := (true, "f1103834f0e1cb0e37b7ce63f1f4e1ded5fe46aacab3cd9ef3f7bbd45aeab8d8"), looks := true }, kinds := [], alts := [], laidByText := true, laidKinds := [.data, .data, .data, .sentinel, .sentinel, .data, .data], laidTests := true, laidLooks := .later }
def FnAmountsCardSaid : Prop := Claim7.holds Tryd.pinned (.plain (OpenSpec.ofChange fnAmountsSpec)) fnAmountsCard

/-- THE SECOND FORM's CARD OF 'laws.FnExactConvertAmount'. -/
def fnExactConvertAmountUptoCard : Claim7 := { stood := { row := fnExactConvertAmountUptoRow, standIns := [], harness := (true, "f1103834f0e1cb0e37b7ce63f1f4e1ded5fe46aacab3cd9ef3f7bbd45aeab8d8"), looks := true }, kinds := [], alts := [], laidByText := true, laidKinds := [.data], laidTests := true, laidLooks := .later }
def FnExactConvertAmountUptoCardSaid : Prop := Claim7.holds Tryd.pinned (.plain (OpenSpec.upto fnExactConvertAmountSpec)) fnExactConvertAmountUptoCard

/-- THE SECOND FORM's CARD OF 'laws.FnExactVolumeIn'. -/
def fnExactVolumeInUptoCard : Claim7 := { stood := { row := fnExactVolumeInUptoRow, standIns := [], harness := (true, "f1103834f0e1cb0e37b7ce63f1f4e1ded5fe46aacab3cd9ef3f7bbd45aeab8d8"), looks := true }, kinds := [], alts := [], laidByText := true, laidKinds := [.data], laidTests := true, laidLooks := .later }
def FnExactVolumeInUptoCardSaid : Prop := Claim7.holds Tryd.pinned (.plain (OpenSpec.upto fnExactVolumeInSpec)) fnExactVolumeInUptoCard

/-- THE SECOND FORM's CARD OF 'laws.FnExactAddAmounts'. -/
def fnExactAddAmountsUptoCard : Claim7 := { stood := { row := fnExactAddAmountsUptoRow, standIns := [], harness := (true, "f1103834f0e1cb0e37b7ce63f1f4e1ded5fe46aacab3cd9ef3f7bbd45aeab8d8"), looks := true }, kinds := [], alts := [], laidByText := true, laidKinds := [.data], laidTests := true, laidLooks := .later }
def FnExactAddAmountsUptoCardSaid : Prop := Claim7.holds Tryd.pinned (.plain (OpenSpec.upto fnExactAddAmountsSpec)) fnExactAddAmountsUptoCard

/-- THE SECOND FORM's CARD OF 'laws.FnExactCompareAmounts'. -/
def fnExactCompareAmountsUptoCard : Claim7 := { stood := { row := fnExactCompareAmountsUptoRow, standIns := [], harness := (true, "f1103834f0e1cb0e37b7ce63f1f4e1ded5fe46aacab3cd9ef3f7bbd45aeab8d8"), looks := true }, kinds := [], alts := [], laidByText := true, laidKinds := [.data], laidTests := true, laidLooks := .later }
def FnExactCompareAmountsUptoCardSaid : Prop := Claim7.holds Tryd.pinned (.plain (OpenSpec.upto fnExactCompareAmountsSpec)) fnExactCompareAmountsUptoCard

/-- THE SECOND FORM's CARD OF 'laws.FnExactAmountText'. -/
def fnExactAmountTextUptoCard : Claim7 := { stood := { row := fnExactAmountTextUptoRow, standIns := [], harness := (true, "f1103834f0e1cb0e37b7ce63f1f4e1ded5fe46aacab3cd9ef3f7bbd45aeab8d8"), looks := true }, kinds := [], alts := [], laidByText := true, laidKinds := [.data, .data, .data, .data], laidTests := true, laidLooks := .later }
def FnExactAmountTextUptoCardSaid : Prop := Claim7.holds Tryd.pinned (.plain (OpenSpec.upto fnExactAmountTextSpec)) fnExactAmountTextUptoCard

/-- THE SECOND FORM's CARD OF 'laws.FnExactDecimalText'. -/
def fnExactDecimalTextUptoCard : Claim7 := { stood := { row := fnExactDecimalTextUptoRow, standIns := [], harness := (true, "f1103834f0e1cb0e37b7ce63f1f4e1ded5fe46aacab3cd9ef3f7bbd45aeab8d8"), looks := true }, kinds := [], alts := [], laidByText := true, laidKinds := [.data, .data, .data], laidTests := true, laidLooks := .later }
def FnExactDecimalTextUptoCardSaid : Prop := Claim7.holds Tryd.pinned (.plain (OpenSpec.upto fnExactDecimalTextSpec)) fnExactDecimalTextUptoCard

/-- THE SECOND FORM's CARD OF 'laws.FnExactParseAmount'. -/
def fnExactParseAmountUptoCard : Claim7 := { stood := { row := fnExactParseAmountUptoRow, standIns := [], harness := (true, "f1103834f0e1cb0e37b7ce63f1f4e1ded5fe46aacab3cd9ef3f7bbd45aeab8d8"), looks := true }, kinds := [], alts := [], laidByText := true, laidKinds := [.data, .data, .data, .sentinel, .sentinel, .data], laidTests := true, laidLooks := .later }
def FnExactParseAmountUptoCardSaid : Prop := Claim7.holds Tryd.pinned (.plain (OpenSpec.upto fnExactParseAmountSpec)) fnExactParseAmountUptoCard

/-- THE SECOND FORM's CARD OF 'laws.FnDecimals'. -/
def fnDecimalsUptoCard : Claim7 := { stood := { row := fnDecimalsUptoRow, standIns := [], harness := (true, "f1103834f0e1cb0e37b7ce63f1f4e1ded5fe46aacab3cd9ef3f7bbd45aeab8d8"), looks := true }, kinds := [], alts := [], laidByText := true, laidKinds := [.data, .data, .data, .data], laidTests := true, laidLooks := .later }
def FnDecimalsUptoCardSaid : Prop := Claim7.holds Tryd.pinned (.plain (OpenSpec.upto fnDecimalsSpec)) fnDecimalsUptoCard

/-- THE SECOND FORM's CARD OF 'laws.FnAmounts'. -/
def fnAmountsUptoCard : Claim7 := { stood := { row := fnAmountsUptoRow, standIns := [], harness := (true, "f1103834f0e1cb0e37b7ce63f1f4e1ded5fe46aacab3cd9ef3f7bbd45aeab8d8"), looks := true }, kinds := [], alts := [], laidByText := true, laidKinds := [.data, .data, .data, .sentinel, .sentinel, .data, .data], laidTests := true, laidLooks := .later }
def FnAmountsUptoCardSaid : Prop := Claim7.holds Tryd.pinned (.plain (OpenSpec.upto fnAmountsSpec)) fnAmountsUptoCard
end Rows
end Go.Proofs.YtlkphjlabmnjiaaDoor
