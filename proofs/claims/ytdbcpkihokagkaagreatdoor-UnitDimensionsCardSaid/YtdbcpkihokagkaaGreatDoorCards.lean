/-
  DERIVED. GIVEN WITH THE SEED: THE CARDS: each row of YtdbcpkihokagkaaGreatDoorRows.lean that lists a variable, with what it lists TIED to the program's text (the seventh form; the later family's looks); each row that meets fmt, with fmt's text TOLD by the authors' own Lean function (tested against real Go, not proved from fmt's source: count such statements apart). THE CARD IS WHAT COUNTS. Prove the row's statement (the work); the ties are given (YtdbcpkihokagkaaGreatDoorTie.lean); close each card by the builder's one call (the guide's Derived/Test/ToyasCard.lean, 'card_holds'). Laid BY PROGRAM, IN A SANDBOX (cutbox-door.mjs). By AI agents, Wed Nov 11 2026. No macro, syntax, notation, axiom, sorry.
-/
import Derived.Test.YtdbcpkihokagkaaGreatDoorRows
import GoSem.ClaimSeven
namespace Go.Proofs.YtdbcpkihokagkaaGreatDoor
namespace Rows

/-- THE TIED CARD OF 'latecomerlaw05.UnitMatchesReference'. -/
def unitMatchesReferenceCard : Claim7 := { stood := { row := unitMatchesReferenceRow, standIns := [], harness := (true, "94a11c867eb7bbee4bbd73c20420d768ec0df861c6077f60ffc5f5e88ac57887"), looks := true }, kinds := [], alts := [], laidByText := true, laidKinds := [.data, .data, .data, .data, .sentinel, .sentinel, .data, .pinned], laidTests := true, laidLooks := .later }
def UnitMatchesReferenceCardSaid : Prop := Claim7.holds Tryz.pinned (.plain (OpenSpec.ofChange unitMatchesReferenceSpec)) unitMatchesReferenceCard

/-- THE TIED CARD OF 'latecomerlaw05.UnitTextMatchesReference'. -/
def unitTextMatchesReferenceCard : Claim7 := { stood := { row := unitTextMatchesReferenceRow, standIns := [], harness := (true, "94a11c867eb7bbee4bbd73c20420d768ec0df861c6077f60ffc5f5e88ac57887"), looks := true }, kinds := [], alts := [], laidByText := true, laidKinds := [.data, .data, .data, .data, .sentinel, .sentinel, .data, .pinned], laidTests := true, laidLooks := .later }
def UnitTextMatchesReferenceCardSaid : Prop := Claim7.holds Tryz.pinned (.plain (OpenSpec.ofChange unitTextMatchesReferenceSpec)) unitTextMatchesReferenceCard

/-- THE TIED CARD OF 'latecomerlaw05.UnitField'. -/
def unitFieldCard : Claim7 := { stood := { row := unitFieldRow, standIns := [], harness := (true, "94a11c867eb7bbee4bbd73c20420d768ec0df861c6077f60ffc5f5e88ac57887"), looks := true }, kinds := [], alts := [], laidByText := true, laidKinds := [.data, .data, .data, .data, .sentinel, .sentinel, .data, .pinned], laidTests := true, laidLooks := .later }
def UnitFieldCardSaid : Prop := Claim7.holds Tryz.pinned (.plain (OpenSpec.ofChange unitFieldSpec)) unitFieldCard

/-- THE TIED CARD OF 'latecomerlaw05.UnitDimensions'. -/
def unitDimensionsCard : Claim7 := { stood := { row := unitDimensionsRow, standIns := [], harness := (true, "94a11c867eb7bbee4bbd73c20420d768ec0df861c6077f60ffc5f5e88ac57887"), looks := true }, kinds := [], alts := [], laidByText := true, laidKinds := [.data, .data, .data, .data, .sentinel, .sentinel, .data, .pinned], laidTests := true, laidLooks := .later }
def UnitDimensionsCardSaid : Prop := Claim7.holds Tryz.pinned (.plain (OpenSpec.ofChange unitDimensionsSpec)) unitDimensionsCard

/-- THE TIED CARD OF 'latecomerlaw05.UnitOrder'. -/
def unitOrderCard : Claim7 := { stood := { row := unitOrderRow, standIns := [], harness := (true, "94a11c867eb7bbee4bbd73c20420d768ec0df861c6077f60ffc5f5e88ac57887"), looks := true }, kinds := [], alts := [], laidByText := true, laidKinds := [.data, .data, .data, .data, .sentinel, .sentinel, .data, .pinned], laidTests := true, laidLooks := .later }
def UnitOrderCardSaid : Prop := Claim7.holds Tryz.pinned (.plain (OpenSpec.ofChange unitOrderSpec)) unitOrderCard

/-- THE TIED CARD OF 'latecomerlaw05.UnitRoundTrip'. -/
def unitRoundTripCard : Claim7 := { stood := { row := unitRoundTripRow, standIns := [], harness := (true, "94a11c867eb7bbee4bbd73c20420d768ec0df861c6077f60ffc5f5e88ac57887"), looks := true }, kinds := [], alts := [], laidByText := true, laidKinds := [.data, .data, .data, .data, .sentinel, .sentinel, .data, .pinned], laidTests := true, laidLooks := .later }
def UnitRoundTripCardSaid : Prop := Claim7.holds Tryz.pinned (.plain (OpenSpec.ofChange unitRoundTripSpec)) unitRoundTripCard

/-- THE TIED CARD OF 'latecomerlaw05.UnitReadAgain'. -/
def unitReadAgainCard : Claim7 := { stood := { row := unitReadAgainRow, standIns := [], harness := (true, "94a11c867eb7bbee4bbd73c20420d768ec0df861c6077f60ffc5f5e88ac57887"), looks := true }, kinds := [], alts := [], laidByText := true, laidKinds := [.data, .data, .data, .data, .sentinel, .sentinel, .data, .pinned], laidTests := true, laidLooks := .later }
def UnitReadAgainCardSaid : Prop := Claim7.holds Tryz.pinned (.plain (OpenSpec.ofChange unitReadAgainSpec)) unitReadAgainCard

/-- THE SECOND FORM's CARD OF 'latecomerlaw05.UnitMatchesReference'. -/
def unitMatchesReferenceUptoCard : Claim7 := { stood := { row := unitMatchesReferenceUptoRow, standIns := [], harness := (true, "94a11c867eb7bbee4bbd73c20420d768ec0df861c6077f60ffc5f5e88ac57887"), looks := true }, kinds := [], alts := [], laidByText := true, laidKinds := [.data, .data, .data, .data, .sentinel, .sentinel, .data, .pinned], laidTests := true, laidLooks := .later }
def UnitMatchesReferenceUptoCardSaid : Prop := Claim7.holds Tryz.pinned (.plain (OpenSpec.upto unitMatchesReferenceSpec)) unitMatchesReferenceUptoCard

/-- THE SECOND FORM's CARD OF 'latecomerlaw05.UnitTextMatchesReference'. -/
def unitTextMatchesReferenceUptoCard : Claim7 := { stood := { row := unitTextMatchesReferenceUptoRow, standIns := [], harness := (true, "94a11c867eb7bbee4bbd73c20420d768ec0df861c6077f60ffc5f5e88ac57887"), looks := true }, kinds := [], alts := [], laidByText := true, laidKinds := [.data, .data, .data, .data, .sentinel, .sentinel, .data, .pinned], laidTests := true, laidLooks := .later }
def UnitTextMatchesReferenceUptoCardSaid : Prop := Claim7.holds Tryz.pinned (.plain (OpenSpec.upto unitTextMatchesReferenceSpec)) unitTextMatchesReferenceUptoCard

/-- THE SECOND FORM's CARD OF 'latecomerlaw05.UnitField'. -/
def unitFieldUptoCard : Claim7 := { stood := { row := unitFieldUptoRow, standIns := [], harness := (true, "94a11c867eb7bbee4bbd73c20420d768ec0df861c6077f60ffc5f5e88ac57887"), looks := true }, kinds := [], alts := [], laidByText := true, laidKinds := [.data, .data, .data, .data, .sentinel, .sentinel, .data, .pinned], laidTests := true, laidLooks := .later }
def UnitFieldUptoCardSaid : Prop := Claim7.holds Tryz.pinned (.plain (OpenSpec.upto unitFieldSpec)) unitFieldUptoCard

/-- THE SECOND FORM's CARD OF 'latecomerlaw05.UnitDimensions'. -/
def unitDimensionsUptoCard : Claim7 := { stood := { row := unitDimensionsUptoRow, standIns := [], harness := (true, "94a11c867eb7bbee4bbd73c20420d768ec0df861c6077f60ffc5f5e88ac57887"), looks := true }, kinds := [], alts := [], laidByText := true, laidKinds := [.data, .data, .data, .data, .sentinel, .sentinel, .data, .pinned], laidTests := true, laidLooks := .later }
def UnitDimensionsUptoCardSaid : Prop := Claim7.holds Tryz.pinned (.plain (OpenSpec.upto unitDimensionsSpec)) unitDimensionsUptoCard

/-- THE SECOND FORM's CARD OF 'latecomerlaw05.UnitOrder'. -/
def unitOrderUptoCard : Claim7 := { stood := { row := unitOrderUptoRow, standIns := [], harness := (true, "94a11c867eb7bbee4bbd73c20420d768ec0df861c6077f60ffc5f5e88ac57887"), looks := true }, kinds := [], alts := [], laidByText := true, laidKinds := [.data, .data, .data, .data, .sentinel, .sentinel, .data, .pinned], laidTests := true, laidLooks := .later }
def UnitOrderUptoCardSaid : Prop := Claim7.holds Tryz.pinned (.plain (OpenSpec.upto unitOrderSpec)) unitOrderUptoCard

/-- THE SECOND FORM's CARD OF 'latecomerlaw05.UnitRoundTrip'. -/
def unitRoundTripUptoCard : Claim7 := { stood := { row := unitRoundTripUptoRow, standIns := [], harness := (true, "94a11c867eb7bbee4bbd73c20420d768ec0df861c6077f60ffc5f5e88ac57887"), looks := true }, kinds := [], alts := [], laidByText := true, laidKinds := [.data, .data, .data, .data, .sentinel, .sentinel, .data, .pinned], laidTests := true, laidLooks := .later }
def UnitRoundTripUptoCardSaid : Prop := Claim7.holds Tryz.pinned (.plain (OpenSpec.upto unitRoundTripSpec)) unitRoundTripUptoCard

/-- THE SECOND FORM's CARD OF 'latecomerlaw05.UnitReadAgain'. -/
def unitReadAgainUptoCard : Claim7 := { stood := { row := unitReadAgainUptoRow, standIns := [], harness := (true, "94a11c867eb7bbee4bbd73c20420d768ec0df861c6077f60ffc5f5e88ac57887"), looks := true }, kinds := [], alts := [], laidByText := true, laidKinds := [.data, .data, .data, .data, .sentinel, .sentinel, .data, .pinned], laidTests := true, laidLooks := .later }
def UnitReadAgainUptoCardSaid : Prop := Claim7.holds Tryz.pinned (.plain (OpenSpec.upto unitReadAgainSpec)) unitReadAgainUptoCard
end Rows
end Go.Proofs.YtdbcpkihokagkaaGreatDoor
