/-
  DERIVED. GIVEN WITH THE SEED: THE CARDS: each row of YtnocjgmmglmfiaaGreatDoorRows.lean that lists a variable, with what it lists TIED to the program's text (the seventh form; the later family's looks); each row that meets fmt, with fmt's text TOLD by the authors' own Lean function (tested against real Go, not proved from fmt's source: count such statements apart). THE CARD IS WHAT COUNTS. Prove the row's statement (the work); the ties are given (YtnocjgmmglmfiaaGreatDoorTie.lean); close each card by the builder's one call (the guide's Derived/Test/ToyasCard.lean, 'card_holds'). Laid BY PROGRAM, IN A SANDBOX (cutbox-door.mjs). By AI agents, Wed Nov 11 2026. No macro, syntax, notation, axiom, sorry.
-/
import Derived.Test.YtnocjgmmglmfiaaGreatDoorRows
import GoSem.ClaimSeven
namespace Go.Proofs.YtnocjgmmglmfiaaGreatDoor
namespace Rows

/-- THE TIED CARD OF 'latecomerlaw16.EstimateMatchesReference'. -/
def estimateMatchesReferenceCard : Claim7 := { stood := { row := estimateMatchesReferenceRow, standIns := [], harness := (true, "8ca0da8e42cd23621eee636a0ffb5c5e08be1b11f9daf3c2c89493395e7dc5e9"), looks := true }, kinds := [], alts := [], laidByText := true, laidKinds := [.data, .data, .data, .data, .sentinel, .sentinel, .data, .data, .pinned], laidTests := true, laidLooks := .later }
def EstimateMatchesReferenceCardSaid : Prop := Claim7.holds Tryz.pinned (.plain (OpenSpec.ofChange estimateMatchesReferenceSpec)) estimateMatchesReferenceCard

/-- THE TIED CARD OF 'latecomerlaw16.EstimateUnbiased'. -/
def estimateUnbiasedCard : Claim7 := { stood := { row := estimateUnbiasedRow, standIns := [], harness := (true, "8ca0da8e42cd23621eee636a0ffb5c5e08be1b11f9daf3c2c89493395e7dc5e9"), looks := true }, kinds := [], alts := [], laidByText := true, laidKinds := [.data, .data, .data, .data, .sentinel, .sentinel, .data, .data, .pinned], laidTests := true, laidLooks := .later }
def EstimateUnbiasedCardSaid : Prop := Claim7.holds Tryz.pinned (.plain (OpenSpec.ofChange estimateUnbiasedSpec)) estimateUnbiasedCard

/-- THE TIED CARD OF 'latecomerlaw16.EstimateVaries'. -/
def estimateVariesCard : Claim7 := { stood := { row := estimateVariesRow, standIns := [], harness := (true, "8ca0da8e42cd23621eee636a0ffb5c5e08be1b11f9daf3c2c89493395e7dc5e9"), looks := true }, kinds := [], alts := [], laidByText := true, laidKinds := [.data, .data, .data, .data, .sentinel, .sentinel, .data, .data, .pinned], laidTests := true, laidLooks := .later }
def EstimateVariesCardSaid : Prop := Claim7.holds Tryz.pinned (.plain (OpenSpec.ofChange estimateVariesSpec)) estimateVariesCard

/-- THE TIED CARD OF 'latecomerlaw16.EstimateCounted'. -/
def estimateCountedCard : Claim7 := { stood := { row := estimateCountedRow, standIns := [], harness := (true, "8ca0da8e42cd23621eee636a0ffb5c5e08be1b11f9daf3c2c89493395e7dc5e9"), looks := true }, kinds := [], alts := [], laidByText := true, laidKinds := [.data, .data, .data, .data, .sentinel, .sentinel, .data, .data, .pinned], laidTests := true, laidLooks := .later }
def EstimateCountedCardSaid : Prop := Claim7.holds Tryz.pinned (.plain (OpenSpec.ofChange estimateCountedSpec)) estimateCountedCard

/-- THE TIED CARD OF 'latecomerlaw16.EstimateAdds'. -/
def estimateAddsCard : Claim7 := { stood := { row := estimateAddsRow, standIns := [], harness := (true, "8ca0da8e42cd23621eee636a0ffb5c5e08be1b11f9daf3c2c89493395e7dc5e9"), looks := true }, kinds := [], alts := [], laidByText := true, laidKinds := [.data, .data, .data, .data, .sentinel, .sentinel, .data, .data, .pinned], laidTests := true, laidLooks := .later }
def EstimateAddsCardSaid : Prop := Claim7.holds Tryz.pinned (.plain (OpenSpec.ofChange estimateAddsSpec)) estimateAddsCard

/-- THE TIED CARD OF 'latecomerlaw16.EstimateExact'. -/
def estimateExactCard : Claim7 := { stood := { row := estimateExactRow, standIns := [], harness := (true, "8ca0da8e42cd23621eee636a0ffb5c5e08be1b11f9daf3c2c89493395e7dc5e9"), looks := true }, kinds := [], alts := [], laidByText := true, laidKinds := [.data, .data, .data, .data, .sentinel, .sentinel, .data, .data, .pinned], laidTests := true, laidLooks := .later }
def EstimateExactCardSaid : Prop := Claim7.holds Tryz.pinned (.plain (OpenSpec.ofChange estimateExactSpec)) estimateExactCard

/-- THE TIED CARD OF 'latecomerlaw16.EstimateScales'. -/
def estimateScalesCard : Claim7 := { stood := { row := estimateScalesRow, standIns := [], harness := (true, "8ca0da8e42cd23621eee636a0ffb5c5e08be1b11f9daf3c2c89493395e7dc5e9"), looks := true }, kinds := [], alts := [], laidByText := true, laidKinds := [.data, .data, .data, .data, .sentinel, .sentinel, .data, .data, .pinned], laidTests := true, laidLooks := .later }
def EstimateScalesCardSaid : Prop := Claim7.holds Tryz.pinned (.plain (OpenSpec.ofChange estimateScalesSpec)) estimateScalesCard

/-- THE TIED CARD OF 'latecomerlaw16.EstimateBetter'. -/
def estimateBetterCard : Claim7 := { stood := { row := estimateBetterRow, standIns := [], harness := (true, "8ca0da8e42cd23621eee636a0ffb5c5e08be1b11f9daf3c2c89493395e7dc5e9"), looks := true }, kinds := [], alts := [], laidByText := true, laidKinds := [.data, .data, .data, .data, .sentinel, .sentinel, .data, .data, .pinned], laidTests := true, laidLooks := .later }
def EstimateBetterCardSaid : Prop := Claim7.holds Tryz.pinned (.plain (OpenSpec.ofChange estimateBetterSpec)) estimateBetterCard

/-- THE SECOND FORM's CARD OF 'latecomerlaw16.EstimateMatchesReference'. -/
def estimateMatchesReferenceUptoCard : Claim7 := { stood := { row := estimateMatchesReferenceUptoRow, standIns := [], harness := (true, "8ca0da8e42cd23621eee636a0ffb5c5e08be1b11f9daf3c2c89493395e7dc5e9"), looks := true }, kinds := [], alts := [], laidByText := true, laidKinds := [.data, .data, .data, .data, .sentinel, .sentinel, .data, .data, .pinned], laidTests := true, laidLooks := .later }
def EstimateMatchesReferenceUptoCardSaid : Prop := Claim7.holds Tryz.pinned (.plain (OpenSpec.upto estimateMatchesReferenceSpec)) estimateMatchesReferenceUptoCard

/-- THE SECOND FORM's CARD OF 'latecomerlaw16.EstimateUnbiased'. -/
def estimateUnbiasedUptoCard : Claim7 := { stood := { row := estimateUnbiasedUptoRow, standIns := [], harness := (true, "8ca0da8e42cd23621eee636a0ffb5c5e08be1b11f9daf3c2c89493395e7dc5e9"), looks := true }, kinds := [], alts := [], laidByText := true, laidKinds := [.data, .data, .data, .data, .sentinel, .sentinel, .data, .data, .pinned], laidTests := true, laidLooks := .later }
def EstimateUnbiasedUptoCardSaid : Prop := Claim7.holds Tryz.pinned (.plain (OpenSpec.upto estimateUnbiasedSpec)) estimateUnbiasedUptoCard

/-- THE SECOND FORM's CARD OF 'latecomerlaw16.EstimateVaries'. -/
def estimateVariesUptoCard : Claim7 := { stood := { row := estimateVariesUptoRow, standIns := [], harness := (true, "8ca0da8e42cd23621eee636a0ffb5c5e08be1b11f9daf3c2c89493395e7dc5e9"), looks := true }, kinds := [], alts := [], laidByText := true, laidKinds := [.data, .data, .data, .data, .sentinel, .sentinel, .data, .data, .pinned], laidTests := true, laidLooks := .later }
def EstimateVariesUptoCardSaid : Prop := Claim7.holds Tryz.pinned (.plain (OpenSpec.upto estimateVariesSpec)) estimateVariesUptoCard

/-- THE SECOND FORM's CARD OF 'latecomerlaw16.EstimateCounted'. -/
def estimateCountedUptoCard : Claim7 := { stood := { row := estimateCountedUptoRow, standIns := [], harness := (true, "8ca0da8e42cd23621eee636a0ffb5c5e08be1b11f9daf3c2c89493395e7dc5e9"), looks := true }, kinds := [], alts := [], laidByText := true, laidKinds := [.data, .data, .data, .data, .sentinel, .sentinel, .data, .data, .pinned], laidTests := true, laidLooks := .later }
def EstimateCountedUptoCardSaid : Prop := Claim7.holds Tryz.pinned (.plain (OpenSpec.upto estimateCountedSpec)) estimateCountedUptoCard

/-- THE SECOND FORM's CARD OF 'latecomerlaw16.EstimateAdds'. -/
def estimateAddsUptoCard : Claim7 := { stood := { row := estimateAddsUptoRow, standIns := [], harness := (true, "8ca0da8e42cd23621eee636a0ffb5c5e08be1b11f9daf3c2c89493395e7dc5e9"), looks := true }, kinds := [], alts := [], laidByText := true, laidKinds := [.data, .data, .data, .data, .sentinel, .sentinel, .data, .data, .pinned], laidTests := true, laidLooks := .later }
def EstimateAddsUptoCardSaid : Prop := Claim7.holds Tryz.pinned (.plain (OpenSpec.upto estimateAddsSpec)) estimateAddsUptoCard

/-- THE SECOND FORM's CARD OF 'latecomerlaw16.EstimateExact'. -/
def estimateExactUptoCard : Claim7 := { stood := { row := estimateExactUptoRow, standIns := [], harness := (true, "8ca0da8e42cd23621eee636a0ffb5c5e08be1b11f9daf3c2c89493395e7dc5e9"), looks := true }, kinds := [], alts := [], laidByText := true, laidKinds := [.data, .data, .data, .data, .sentinel, .sentinel, .data, .data, .pinned], laidTests := true, laidLooks := .later }
def EstimateExactUptoCardSaid : Prop := Claim7.holds Tryz.pinned (.plain (OpenSpec.upto estimateExactSpec)) estimateExactUptoCard

/-- THE SECOND FORM's CARD OF 'latecomerlaw16.EstimateScales'. -/
def estimateScalesUptoCard : Claim7 := { stood := { row := estimateScalesUptoRow, standIns := [], harness := (true, "8ca0da8e42cd23621eee636a0ffb5c5e08be1b11f9daf3c2c89493395e7dc5e9"), looks := true }, kinds := [], alts := [], laidByText := true, laidKinds := [.data, .data, .data, .data, .sentinel, .sentinel, .data, .data, .pinned], laidTests := true, laidLooks := .later }
def EstimateScalesUptoCardSaid : Prop := Claim7.holds Tryz.pinned (.plain (OpenSpec.upto estimateScalesSpec)) estimateScalesUptoCard

/-- THE SECOND FORM's CARD OF 'latecomerlaw16.EstimateBetter'. -/
def estimateBetterUptoCard : Claim7 := { stood := { row := estimateBetterUptoRow, standIns := [], harness := (true, "8ca0da8e42cd23621eee636a0ffb5c5e08be1b11f9daf3c2c89493395e7dc5e9"), looks := true }, kinds := [], alts := [], laidByText := true, laidKinds := [.data, .data, .data, .data, .sentinel, .sentinel, .data, .data, .pinned], laidTests := true, laidLooks := .later }
def EstimateBetterUptoCardSaid : Prop := Claim7.holds Tryz.pinned (.plain (OpenSpec.upto estimateBetterSpec)) estimateBetterUptoCard
end Rows
end Go.Proofs.YtnocjgmmglmfiaaGreatDoor
