/-
  DERIVED. GIVEN WITH THE SEED: THE CARDS: each row of YthjhkpefammjkaaGreatDoorRows.lean that lists a variable, with what it lists TIED to the program's text (the seventh form; the later family's looks); each row that meets fmt, with fmt's text TOLD by the authors' own Lean function (tested against real Go, not proved from fmt's source: count such statements apart). THE CARD IS WHAT COUNTS. Prove the row's statement (the work); the ties are given (YthjhkpefammjkaaGreatDoorTie.lean); close each card by the builder's one call (the guide's Derived/Test/ToyasCard.lean, 'card_holds'). Laid BY PROGRAM, IN A SANDBOX (cutbox-door.mjs). By AI agents, Wed Nov 11 2026. No macro, syntax, notation, axiom, sorry.
-/
import Derived.Test.YthjhkpefammjkaaGreatDoorRows
import GoSem.ClaimSeven
namespace Go.Proofs.YthjhkpefammjkaaGreatDoor
namespace Rows

/-- THE TIED CARD OF 'latecomerlaw25.ShareMatchesReference'. -/
def shareMatchesReferenceCard : Claim7 := { stood := { row := shareMatchesReferenceRow, standIns := [], harness := (true, "a377fe4a35b828e50be263317ed89d7228943c67cca92891b7e8ff4f2cb04ec8"), looks := true }, kinds := [], alts := [], laidByText := true, laidKinds := [.data, .data, .data, .data, .sentinel, .sentinel, .data, .pinned], laidTests := true, laidLooks := .later }
def ShareMatchesReferenceCardSaid : Prop := Claim7.holds Tryz.pinned (.plain (OpenSpec.ofChange shareMatchesReferenceSpec)) shareMatchesReferenceCard

/-- THE TIED CARD OF 'latecomerlaw25.ShareMergedMatchesReference'. -/
def shareMergedMatchesReferenceCard : Claim7 := { stood := { row := shareMergedMatchesReferenceRow, standIns := [], harness := (true, "a377fe4a35b828e50be263317ed89d7228943c67cca92891b7e8ff4f2cb04ec8"), looks := true }, kinds := [], alts := [], laidByText := true, laidKinds := [.data, .data, .data, .data, .sentinel, .sentinel, .data, .pinned], laidTests := true, laidLooks := .later }
def ShareMergedMatchesReferenceCardSaid : Prop := Claim7.holds Tryz.pinned (.plain (OpenSpec.ofChange shareMergedMatchesReferenceSpec)) shareMergedMatchesReferenceCard

/-- THE TIED CARD OF 'latecomerlaw25.ShareAddsUp'. -/
def shareAddsUpCard : Claim7 := { stood := { row := shareAddsUpRow, standIns := [], harness := (true, "a377fe4a35b828e50be263317ed89d7228943c67cca92891b7e8ff4f2cb04ec8"), looks := true }, kinds := [], alts := [], laidByText := true, laidKinds := [.data, .data, .data, .data, .sentinel, .sentinel, .data, .pinned], laidTests := true, laidLooks := .later }
def ShareAddsUpCardSaid : Prop := Claim7.holds Tryz.pinned (.plain (OpenSpec.ofChange shareAddsUpSpec)) shareAddsUpCard

/-- THE TIED CARD OF 'latecomerlaw25.ShareFair'. -/
def shareFairCard : Claim7 := { stood := { row := shareFairRow, standIns := [], harness := (true, "a377fe4a35b828e50be263317ed89d7228943c67cca92891b7e8ff4f2cb04ec8"), looks := true }, kinds := [], alts := [], laidByText := true, laidKinds := [.data, .data, .data, .data, .sentinel, .sentinel, .data, .pinned], laidTests := true, laidLooks := .later }
def ShareFairCardSaid : Prop := Claim7.holds Tryz.pinned (.plain (OpenSpec.ofChange shareFairSpec)) shareFairCard

/-- THE TIED CARD OF 'latecomerlaw25.ShareAdditive'. -/
def shareAdditiveCard : Claim7 := { stood := { row := shareAdditiveRow, standIns := [], harness := (true, "a377fe4a35b828e50be263317ed89d7228943c67cca92891b7e8ff4f2cb04ec8"), looks := true }, kinds := [], alts := [], laidByText := true, laidKinds := [.data, .data, .data, .data, .sentinel, .sentinel, .data, .pinned], laidTests := true, laidLooks := .later }
def ShareAdditiveCardSaid : Prop := Claim7.holds Tryz.pinned (.plain (OpenSpec.ofChange shareAdditiveSpec)) shareAdditiveCard

/-- THE TIED CARD OF 'latecomerlaw25.ShareOrders'. -/
def shareOrdersCard : Claim7 := { stood := { row := shareOrdersRow, standIns := [], harness := (true, "a377fe4a35b828e50be263317ed89d7228943c67cca92891b7e8ff4f2cb04ec8"), looks := true }, kinds := [], alts := [], laidByText := true, laidKinds := [.data, .data, .data, .data, .sentinel, .sentinel, .data, .pinned], laidTests := true, laidLooks := .later }
def ShareOrdersCardSaid : Prop := Claim7.holds Tryz.pinned (.plain (OpenSpec.ofChange shareOrdersSpec)) shareOrdersCard

/-- THE TIED CARD OF 'latecomerlaw25.ShareMerged'. -/
def shareMergedCard : Claim7 := { stood := { row := shareMergedRow, standIns := [], harness := (true, "a377fe4a35b828e50be263317ed89d7228943c67cca92891b7e8ff4f2cb04ec8"), looks := true }, kinds := [], alts := [], laidByText := true, laidKinds := [.data, .data, .data, .data, .sentinel, .sentinel, .data, .pinned], laidTests := true, laidLooks := .later }
def ShareMergedCardSaid : Prop := Claim7.holds Tryz.pinned (.plain (OpenSpec.ofChange shareMergedSpec)) shareMergedCard

/-- THE TIED CARD OF 'latecomerlaw25.ShareMonotone'. -/
def shareMonotoneCard : Claim7 := { stood := { row := shareMonotoneRow, standIns := [], harness := (true, "a377fe4a35b828e50be263317ed89d7228943c67cca92891b7e8ff4f2cb04ec8"), looks := true }, kinds := [], alts := [], laidByText := true, laidKinds := [.data, .data, .data, .data, .sentinel, .sentinel, .data, .pinned], laidTests := true, laidLooks := .later }
def ShareMonotoneCardSaid : Prop := Claim7.holds Tryz.pinned (.plain (OpenSpec.ofChange shareMonotoneSpec)) shareMonotoneCard

/-- THE SECOND FORM's CARD OF 'latecomerlaw25.ShareMatchesReference'. -/
def shareMatchesReferenceUptoCard : Claim7 := { stood := { row := shareMatchesReferenceUptoRow, standIns := [], harness := (true, "a377fe4a35b828e50be263317ed89d7228943c67cca92891b7e8ff4f2cb04ec8"), looks := true }, kinds := [], alts := [], laidByText := true, laidKinds := [.data, .data, .data, .data, .sentinel, .sentinel, .data, .pinned], laidTests := true, laidLooks := .later }
def ShareMatchesReferenceUptoCardSaid : Prop := Claim7.holds Tryz.pinned (.plain (OpenSpec.upto shareMatchesReferenceSpec)) shareMatchesReferenceUptoCard

/-- THE SECOND FORM's CARD OF 'latecomerlaw25.ShareMergedMatchesReference'. -/
def shareMergedMatchesReferenceUptoCard : Claim7 := { stood := { row := shareMergedMatchesReferenceUptoRow, standIns := [], harness := (true, "a377fe4a35b828e50be263317ed89d7228943c67cca92891b7e8ff4f2cb04ec8"), looks := true }, kinds := [], alts := [], laidByText := true, laidKinds := [.data, .data, .data, .data, .sentinel, .sentinel, .data, .pinned], laidTests := true, laidLooks := .later }
def ShareMergedMatchesReferenceUptoCardSaid : Prop := Claim7.holds Tryz.pinned (.plain (OpenSpec.upto shareMergedMatchesReferenceSpec)) shareMergedMatchesReferenceUptoCard

/-- THE SECOND FORM's CARD OF 'latecomerlaw25.ShareAddsUp'. -/
def shareAddsUpUptoCard : Claim7 := { stood := { row := shareAddsUpUptoRow, standIns := [], harness := (true, "a377fe4a35b828e50be263317ed89d7228943c67cca92891b7e8ff4f2cb04ec8"), looks := true }, kinds := [], alts := [], laidByText := true, laidKinds := [.data, .data, .data, .data, .sentinel, .sentinel, .data, .pinned], laidTests := true, laidLooks := .later }
def ShareAddsUpUptoCardSaid : Prop := Claim7.holds Tryz.pinned (.plain (OpenSpec.upto shareAddsUpSpec)) shareAddsUpUptoCard

/-- THE SECOND FORM's CARD OF 'latecomerlaw25.ShareFair'. -/
def shareFairUptoCard : Claim7 := { stood := { row := shareFairUptoRow, standIns := [], harness := (true, "a377fe4a35b828e50be263317ed89d7228943c67cca92891b7e8ff4f2cb04ec8"), looks := true }, kinds := [], alts := [], laidByText := true, laidKinds := [.data, .data, .data, .data, .sentinel, .sentinel, .data, .pinned], laidTests := true, laidLooks := .later }
def ShareFairUptoCardSaid : Prop := Claim7.holds Tryz.pinned (.plain (OpenSpec.upto shareFairSpec)) shareFairUptoCard

/-- THE SECOND FORM's CARD OF 'latecomerlaw25.ShareAdditive'. -/
def shareAdditiveUptoCard : Claim7 := { stood := { row := shareAdditiveUptoRow, standIns := [], harness := (true, "a377fe4a35b828e50be263317ed89d7228943c67cca92891b7e8ff4f2cb04ec8"), looks := true }, kinds := [], alts := [], laidByText := true, laidKinds := [.data, .data, .data, .data, .sentinel, .sentinel, .data, .pinned], laidTests := true, laidLooks := .later }
def ShareAdditiveUptoCardSaid : Prop := Claim7.holds Tryz.pinned (.plain (OpenSpec.upto shareAdditiveSpec)) shareAdditiveUptoCard

/-- THE SECOND FORM's CARD OF 'latecomerlaw25.ShareOrders'. -/
def shareOrdersUptoCard : Claim7 := { stood := { row := shareOrdersUptoRow, standIns := [], harness := (true, "a377fe4a35b828e50be263317ed89d7228943c67cca92891b7e8ff4f2cb04ec8"), looks := true }, kinds := [], alts := [], laidByText := true, laidKinds := [.data, .data, .data, .data, .sentinel, .sentinel, .data, .pinned], laidTests := true, laidLooks := .later }
def ShareOrdersUptoCardSaid : Prop := Claim7.holds Tryz.pinned (.plain (OpenSpec.upto shareOrdersSpec)) shareOrdersUptoCard

/-- THE SECOND FORM's CARD OF 'latecomerlaw25.ShareMerged'. -/
def shareMergedUptoCard : Claim7 := { stood := { row := shareMergedUptoRow, standIns := [], harness := (true, "a377fe4a35b828e50be263317ed89d7228943c67cca92891b7e8ff4f2cb04ec8"), looks := true }, kinds := [], alts := [], laidByText := true, laidKinds := [.data, .data, .data, .data, .sentinel, .sentinel, .data, .pinned], laidTests := true, laidLooks := .later }
def ShareMergedUptoCardSaid : Prop := Claim7.holds Tryz.pinned (.plain (OpenSpec.upto shareMergedSpec)) shareMergedUptoCard

/-- THE SECOND FORM's CARD OF 'latecomerlaw25.ShareMonotone'. -/
def shareMonotoneUptoCard : Claim7 := { stood := { row := shareMonotoneUptoRow, standIns := [], harness := (true, "a377fe4a35b828e50be263317ed89d7228943c67cca92891b7e8ff4f2cb04ec8"), looks := true }, kinds := [], alts := [], laidByText := true, laidKinds := [.data, .data, .data, .data, .sentinel, .sentinel, .data, .pinned], laidTests := true, laidLooks := .later }
def ShareMonotoneUptoCardSaid : Prop := Claim7.holds Tryz.pinned (.plain (OpenSpec.upto shareMonotoneSpec)) shareMonotoneUptoCard
end Rows
end Go.Proofs.YthjhkpefammjkaaGreatDoor
