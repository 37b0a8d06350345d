/-
  DERIVED. GIVEN WITH THE SEED: THE CARDS: each row of YtmfapokolgnnhaaDoorRows.lean that lists a variable, with what it lists TIED to the program's text (the seventh form; the later family's looks); each row that meets fmt, with fmt's text TOLD by the authors' own Lean function (tested against real Go, not proved from fmt's source: count such statements apart). THE CARD IS WHAT COUNTS. Prove the row's statement (the work); the ties are given (YtmfapokolgnnhaaDoorTie.lean); close each card by the builder's one call (the guide's Derived/Test/ToyasCard.lean, 'card_holds'). Laid BY PROGRAM, IN A SANDBOX (cutbox-door.mjs). By AI agents, Wed Nov 11 2026. No macro, syntax, notation, axiom, sorry.
-/
import Derived.Test.YtmfapokolgnnhaaDoorRows
import GoSem.ClaimSeven
namespace Go.Proofs.YtmfapokolgnnhaaDoor
namespace Rows

/-- THE TIED CARD OF 'laws.FnExactNetworkText'. -/
def fnExactNetworkTextCard : Claim7 := { stood := { row := fnExactNetworkTextRow, standIns := [], harness := (true, "628d6e4ed85e9b5cd1fd806c9204626f24461572858844650a20d767d3557e23"), looks := false }, kinds := [], alts := [], laidByText := true, laidKinds := [.data, .data, .data], laidTests := true, laidLooks := .later }
def FnExactNetworkTextCardSaid : Prop := Claim7.holds Tryd.pinned (.plain (OpenSpec.ofChange fnExactNetworkTextSpec)) fnExactNetworkTextCard

/-- THE TIED CARD OF 'laws.FnExactParseNetwork'. -/
def fnExactParseNetworkCard : Claim7 := { stood := { row := fnExactParseNetworkRow, standIns := [], harness := (true, "628d6e4ed85e9b5cd1fd806c9204626f24461572858844650a20d767d3557e23"), looks := false }, kinds := [], alts := [], laidByText := true, laidKinds := [.data, .data, .data, .data, .pinned], laidTests := true, laidLooks := .later }
def FnExactParseNetworkCardSaid : Prop := Claim7.holds Tryd.pinned (.plain (OpenSpec.ofChange fnExactParseNetworkSpec)) fnExactParseNetworkCard

/-- THE TIED CARD OF 'laws.FnNetworks'. -/
def fnNetworksCard : Claim7 := { stood := { row := fnNetworksRow, standIns := [], harness := (true, "628d6e4ed85e9b5cd1fd806c9204626f24461572858844650a20d767d3557e23"), looks := false }, kinds := [], alts := [], laidByText := true, laidKinds := [.data, .data, .data, .data, .pinned], laidTests := true, laidLooks := .later }
def FnNetworksCardSaid : Prop := Claim7.holds Tryd.pinned (.plain (OpenSpec.ofChange fnNetworksSpec)) fnNetworksCard

/-- THE SECOND FORM's CARD OF 'laws.FnExactNetworkText'. -/
def fnExactNetworkTextUptoCard : Claim7 := { stood := { row := fnExactNetworkTextUptoRow, standIns := [], harness := (true, "628d6e4ed85e9b5cd1fd806c9204626f24461572858844650a20d767d3557e23"), looks := false }, kinds := [], alts := [], laidByText := true, laidKinds := [.data, .data, .data], laidTests := true, laidLooks := .later }
def FnExactNetworkTextUptoCardSaid : Prop := Claim7.holds Tryd.pinned (.plain (OpenSpec.upto fnExactNetworkTextSpec)) fnExactNetworkTextUptoCard

/-- THE SECOND FORM's CARD OF 'laws.FnExactParseNetwork'. -/
def fnExactParseNetworkUptoCard : Claim7 := { stood := { row := fnExactParseNetworkUptoRow, standIns := [], harness := (true, "628d6e4ed85e9b5cd1fd806c9204626f24461572858844650a20d767d3557e23"), looks := false }, kinds := [], alts := [], laidByText := true, laidKinds := [.data, .data, .data, .data, .pinned], laidTests := true, laidLooks := .later }
def FnExactParseNetworkUptoCardSaid : Prop := Claim7.holds Tryd.pinned (.plain (OpenSpec.upto fnExactParseNetworkSpec)) fnExactParseNetworkUptoCard

/-- THE SECOND FORM's CARD OF 'laws.FnNetworks'. -/
def fnNetworksUptoCard : Claim7 := { stood := { row := fnNetworksUptoRow, standIns := [], harness := (true, "628d6e4ed85e9b5cd1fd806c9204626f24461572858844650a20d767d3557e23"), looks := false }, kinds := [], alts := [], laidByText := true, laidKinds := [.data, .data, .data, .data, .pinned], laidTests := true, laidLooks := .later }
def FnNetworksUptoCardSaid : Prop := Claim7.holds Tryd.pinned (.plain (OpenSpec.upto fnNetworksSpec)) fnNetworksUptoCard
end Rows
end Go.Proofs.YtmfapokolgnnhaaDoor
