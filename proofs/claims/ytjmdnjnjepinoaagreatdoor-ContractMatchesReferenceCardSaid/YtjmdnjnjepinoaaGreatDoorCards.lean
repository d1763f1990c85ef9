/-
  DERIVED. GIVEN WITH THE SEED: THE CARDS: each row of YtjmdnjnjepinoaaGreatDoorRows.lean that lists a variable, with what it lists TIED to the program's text (the seventh form; the later family's looks); each row that meets fmt, with fmt's text TOLD by the authors' own Lean function (tested against real Go, not proved from fmt's source: count such statements apart). THE CARD IS WHAT COUNTS. Prove the row's statement (the work); the ties are given (YtjmdnjnjepinoaaGreatDoorTie.lean); close each card by the builder's one call (the guide's Derived/Test/ToyasCard.lean, 'card_holds'). Laid BY PROGRAM, IN A SANDBOX (cutbox-door.mjs). By AI agents, Wed Nov 11 2026. No macro, syntax, notation, axiom, sorry.
-/
import Derived.Test.YtjmdnjnjepinoaaGreatDoorRows
import GoSem.ClaimSeven
namespace Go.Proofs.YtjmdnjnjepinoaaGreatDoor
namespace Rows

/-- THE TIED CARD OF 'latecomerlaw26.ContractMatchesReference'. -/
def contractMatchesReferenceCard : Claim7 := { stood := { row := contractMatchesReferenceRow, standIns := [], harness := (true, "40b7b134f89fab2cd1e5c4ab9728508c6e3d6ccafab5d3542715cf4e71623626"), looks := true }, kinds := [], alts := [], laidByText := true, laidKinds := [.data, .data, .data, .data, .sentinel, .sentinel, .data, .pinned], laidTests := true, laidLooks := .later }
def ContractMatchesReferenceCardSaid : Prop := Claim7.holds Tryz.pinned (.plain (OpenSpec.ofChange contractMatchesReferenceSpec)) contractMatchesReferenceCard

/-- THE TIED CARD OF 'latecomerlaw26.ContractExact'. -/
def contractExactCard : Claim7 := { stood := { row := contractExactRow, standIns := [], harness := (true, "40b7b134f89fab2cd1e5c4ab9728508c6e3d6ccafab5d3542715cf4e71623626"), looks := true }, kinds := [], alts := [], laidByText := true, laidKinds := [.data, .data, .data, .data, .sentinel, .sentinel, .data, .pinned], laidTests := true, laidLooks := .later }
def ContractExactCardSaid : Prop := Claim7.holds Tryz.pinned (.plain (OpenSpec.ofChange contractExactSpec)) contractExactCard

/-- THE TIED CARD OF 'latecomerlaw26.ContractScale'. -/
def contractScaleCard : Claim7 := { stood := { row := contractScaleRow, standIns := [], harness := (true, "40b7b134f89fab2cd1e5c4ab9728508c6e3d6ccafab5d3542715cf4e71623626"), looks := true }, kinds := [], alts := [], laidByText := true, laidKinds := [.data, .data, .data, .data, .sentinel, .sentinel, .data, .pinned], laidTests := true, laidLooks := .later }
def ContractScaleCardSaid : Prop := Claim7.holds Tryz.pinned (.plain (OpenSpec.ofChange contractScaleSpec)) contractScaleCard

/-- THE TIED CARD OF 'latecomerlaw26.ContractCapped'. -/
def contractCappedCard : Claim7 := { stood := { row := contractCappedRow, standIns := [], harness := (true, "40b7b134f89fab2cd1e5c4ab9728508c6e3d6ccafab5d3542715cf4e71623626"), looks := true }, kinds := [], alts := [], laidByText := true, laidKinds := [.data, .data, .data, .data, .sentinel, .sentinel, .data, .pinned], laidTests := true, laidLooks := .later }
def ContractCappedCardSaid : Prop := Claim7.holds Tryz.pinned (.plain (OpenSpec.ofChange contractCappedSpec)) contractCappedCard

/-- THE TIED CARD OF 'latecomerlaw26.ContractKept'. -/
def contractKeptCard : Claim7 := { stood := { row := contractKeptRow, standIns := [], harness := (true, "40b7b134f89fab2cd1e5c4ab9728508c6e3d6ccafab5d3542715cf4e71623626"), looks := true }, kinds := [], alts := [], laidByText := true, laidKinds := [.data, .data, .data, .data, .sentinel, .sentinel, .data, .pinned], laidTests := true, laidLooks := .later }
def ContractKeptCardSaid : Prop := Claim7.holds Tryz.pinned (.plain (OpenSpec.ofChange contractKeptSpec)) contractKeptCard

/-- THE TIED CARD OF 'latecomerlaw26.ContractBilled'. -/
def contractBilledCard : Claim7 := { stood := { row := contractBilledRow, standIns := [], harness := (true, "40b7b134f89fab2cd1e5c4ab9728508c6e3d6ccafab5d3542715cf4e71623626"), looks := true }, kinds := [], alts := [], laidByText := true, laidKinds := [.data, .data, .data, .data, .sentinel, .sentinel, .data, .pinned], laidTests := true, laidLooks := .later }
def ContractBilledCardSaid : Prop := Claim7.holds Tryz.pinned (.plain (OpenSpec.ofChange contractBilledSpec)) contractBilledCard

/-- THE SECOND FORM's CARD OF 'latecomerlaw26.ContractMatchesReference'. -/
def contractMatchesReferenceUptoCard : Claim7 := { stood := { row := contractMatchesReferenceUptoRow, standIns := [], harness := (true, "40b7b134f89fab2cd1e5c4ab9728508c6e3d6ccafab5d3542715cf4e71623626"), looks := true }, kinds := [], alts := [], laidByText := true, laidKinds := [.data, .data, .data, .data, .sentinel, .sentinel, .data, .pinned], laidTests := true, laidLooks := .later }
def ContractMatchesReferenceUptoCardSaid : Prop := Claim7.holds Tryz.pinned (.plain (OpenSpec.upto contractMatchesReferenceSpec)) contractMatchesReferenceUptoCard

/-- THE SECOND FORM's CARD OF 'latecomerlaw26.ContractExact'. -/
def contractExactUptoCard : Claim7 := { stood := { row := contractExactUptoRow, standIns := [], harness := (true, "40b7b134f89fab2cd1e5c4ab9728508c6e3d6ccafab5d3542715cf4e71623626"), looks := true }, kinds := [], alts := [], laidByText := true, laidKinds := [.data, .data, .data, .data, .sentinel, .sentinel, .data, .pinned], laidTests := true, laidLooks := .later }
def ContractExactUptoCardSaid : Prop := Claim7.holds Tryz.pinned (.plain (OpenSpec.upto contractExactSpec)) contractExactUptoCard

/-- THE SECOND FORM's CARD OF 'latecomerlaw26.ContractScale'. -/
def contractScaleUptoCard : Claim7 := { stood := { row := contractScaleUptoRow, standIns := [], harness := (true, "40b7b134f89fab2cd1e5c4ab9728508c6e3d6ccafab5d3542715cf4e71623626"), looks := true }, kinds := [], alts := [], laidByText := true, laidKinds := [.data, .data, .data, .data, .sentinel, .sentinel, .data, .pinned], laidTests := true, laidLooks := .later }
def ContractScaleUptoCardSaid : Prop := Claim7.holds Tryz.pinned (.plain (OpenSpec.upto contractScaleSpec)) contractScaleUptoCard

/-- THE SECOND FORM's CARD OF 'latecomerlaw26.ContractCapped'. -/
def contractCappedUptoCard : Claim7 := { stood := { row := contractCappedUptoRow, standIns := [], harness := (true, "40b7b134f89fab2cd1e5c4ab9728508c6e3d6ccafab5d3542715cf4e71623626"), looks := true }, kinds := [], alts := [], laidByText := true, laidKinds := [.data, .data, .data, .data, .sentinel, .sentinel, .data, .pinned], laidTests := true, laidLooks := .later }
def ContractCappedUptoCardSaid : Prop := Claim7.holds Tryz.pinned (.plain (OpenSpec.upto contractCappedSpec)) contractCappedUptoCard

/-- THE SECOND FORM's CARD OF 'latecomerlaw26.ContractKept'. -/
def contractKeptUptoCard : Claim7 := { stood := { row := contractKeptUptoRow, standIns := [], harness := (true, "40b7b134f89fab2cd1e5c4ab9728508c6e3d6ccafab5d3542715cf4e71623626"), looks := true }, kinds := [], alts := [], laidByText := true, laidKinds := [.data, .data, .data, .data, .sentinel, .sentinel, .data, .pinned], laidTests := true, laidLooks := .later }
def ContractKeptUptoCardSaid : Prop := Claim7.holds Tryz.pinned (.plain (OpenSpec.upto contractKeptSpec)) contractKeptUptoCard

/-- THE SECOND FORM's CARD OF 'latecomerlaw26.ContractBilled'. -/
def contractBilledUptoCard : Claim7 := { stood := { row := contractBilledUptoRow, standIns := [], harness := (true, "40b7b134f89fab2cd1e5c4ab9728508c6e3d6ccafab5d3542715cf4e71623626"), looks := true }, kinds := [], alts := [], laidByText := true, laidKinds := [.data, .data, .data, .data, .sentinel, .sentinel, .data, .pinned], laidTests := true, laidLooks := .later }
def ContractBilledUptoCardSaid : Prop := Claim7.holds Tryz.pinned (.plain (OpenSpec.upto contractBilledSpec)) contractBilledUptoCard
end Rows
end Go.Proofs.YtjmdnjnjepinoaaGreatDoor
