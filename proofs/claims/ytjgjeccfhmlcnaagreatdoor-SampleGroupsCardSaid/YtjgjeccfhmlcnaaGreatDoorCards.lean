/-
  DERIVED. GIVEN WITH THE SEED: THE CARDS: each row of YtjgjeccfhmlcnaaGreatDoorRows.lean that lists a variable, with what it lists TIED to the program's text (the seventh form; the later family's looks); each row that meets fmt, with fmt's text TOLD by the authors' own Lean function (tested against real Go, not proved from fmt's source: count such statements apart). THE CARD IS WHAT COUNTS. Prove the row's statement (the work); the ties are given (YtjgjeccfhmlcnaaGreatDoorTie.lean); close each card by the builder's one call (the guide's Derived/Test/ToyasCard.lean, 'card_holds'). Laid BY PROGRAM, IN A SANDBOX (cutbox-door.mjs). By AI agents, Wed Nov 11 2026. No macro, syntax, notation, axiom, sorry.
-/
import Derived.Test.YtjgjeccfhmlcnaaGreatDoorRows
import GoSem.ClaimSeven
namespace Go.Proofs.YtjgjeccfhmlcnaaGreatDoor
namespace Rows

/-- THE TIED CARD OF 'latecomerlaw15.SampleGrows'. -/
def sampleGrowsCard : Claim7 := { stood := { row := sampleGrowsRow, standIns := [], harness := (true, "2a97a75b54208293b8703f7ffff8ed153be5fbcfb1245d5203b9a6abdc4a9615"), looks := true }, kinds := [], alts := [], laidByText := true, laidKinds := [.data, .data, .data, .data, .sentinel, .sentinel, .data, .pinned], laidTests := true, laidLooks := .later }
def SampleGrowsCardSaid : Prop := Claim7.holds Tryz.pinned (.plain (OpenSpec.ofChange sampleGrowsSpec)) sampleGrowsCard

/-- THE TIED CARD OF 'latecomerlaw15.SampleWhole'. -/
def sampleWholeCard : Claim7 := { stood := { row := sampleWholeRow, standIns := [], harness := (true, "2a97a75b54208293b8703f7ffff8ed153be5fbcfb1245d5203b9a6abdc4a9615"), looks := true }, kinds := [], alts := [], laidByText := true, laidKinds := [.data, .data, .data, .data, .sentinel, .sentinel, .data, .pinned], laidTests := true, laidLooks := .later }
def SampleWholeCardSaid : Prop := Claim7.holds Tryz.pinned (.plain (OpenSpec.ofChange sampleWholeSpec)) sampleWholeCard

/-- THE TIED CARD OF 'latecomerlaw15.SampleGroups'. -/
def sampleGroupsCard : Claim7 := { stood := { row := sampleGroupsRow, standIns := [], harness := (true, "2a97a75b54208293b8703f7ffff8ed153be5fbcfb1245d5203b9a6abdc4a9615"), looks := true }, kinds := [], alts := [], laidByText := true, laidKinds := [.data, .data, .data, .data, .sentinel, .sentinel, .data, .pinned], laidTests := true, laidLooks := .later }
def SampleGroupsCardSaid : Prop := Claim7.holds Tryz.pinned (.plain (OpenSpec.ofChange sampleGroupsSpec)) sampleGroupsCard

/-- THE TIED CARD OF 'latecomerlaw15.SampleThins'. -/
def sampleThinsCard : Claim7 := { stood := { row := sampleThinsRow, standIns := [], harness := (true, "2a97a75b54208293b8703f7ffff8ed153be5fbcfb1245d5203b9a6abdc4a9615"), looks := true }, kinds := [], alts := [], laidByText := true, laidKinds := [.data, .data, .data, .data, .sentinel, .sentinel, .data, .pinned], laidTests := true, laidLooks := .later }
def SampleThinsCardSaid : Prop := Claim7.holds Tryz.pinned (.plain (OpenSpec.ofChange sampleThinsSpec)) sampleThinsCard

/-- THE TIED CARD OF 'latecomerlaw15.SampleBudget'. -/
def sampleBudgetCard : Claim7 := { stood := { row := sampleBudgetRow, standIns := [], harness := (true, "2a97a75b54208293b8703f7ffff8ed153be5fbcfb1245d5203b9a6abdc4a9615"), looks := true }, kinds := [], alts := [], laidByText := true, laidKinds := [.data, .data, .data, .data, .sentinel, .sentinel, .data, .pinned], laidTests := true, laidLooks := .later }
def SampleBudgetCardSaid : Prop := Claim7.holds Tryz.pinned (.plain (OpenSpec.ofChange sampleBudgetSpec)) sampleBudgetCard

/-- THE SECOND FORM's CARD OF 'latecomerlaw15.SampleGrows'. -/
def sampleGrowsUptoCard : Claim7 := { stood := { row := sampleGrowsUptoRow, standIns := [], harness := (true, "2a97a75b54208293b8703f7ffff8ed153be5fbcfb1245d5203b9a6abdc4a9615"), looks := true }, kinds := [], alts := [], laidByText := true, laidKinds := [.data, .data, .data, .data, .sentinel, .sentinel, .data, .pinned], laidTests := true, laidLooks := .later }
def SampleGrowsUptoCardSaid : Prop := Claim7.holds Tryz.pinned (.plain (OpenSpec.upto sampleGrowsSpec)) sampleGrowsUptoCard

/-- THE SECOND FORM's CARD OF 'latecomerlaw15.SampleWhole'. -/
def sampleWholeUptoCard : Claim7 := { stood := { row := sampleWholeUptoRow, standIns := [], harness := (true, "2a97a75b54208293b8703f7ffff8ed153be5fbcfb1245d5203b9a6abdc4a9615"), looks := true }, kinds := [], alts := [], laidByText := true, laidKinds := [.data, .data, .data, .data, .sentinel, .sentinel, .data, .pinned], laidTests := true, laidLooks := .later }
def SampleWholeUptoCardSaid : Prop := Claim7.holds Tryz.pinned (.plain (OpenSpec.upto sampleWholeSpec)) sampleWholeUptoCard

/-- THE SECOND FORM's CARD OF 'latecomerlaw15.SampleGroups'. -/
def sampleGroupsUptoCard : Claim7 := { stood := { row := sampleGroupsUptoRow, standIns := [], harness := (true, "2a97a75b54208293b8703f7ffff8ed153be5fbcfb1245d5203b9a6abdc4a9615"), looks := true }, kinds := [], alts := [], laidByText := true, laidKinds := [.data, .data, .data, .data, .sentinel, .sentinel, .data, .pinned], laidTests := true, laidLooks := .later }
def SampleGroupsUptoCardSaid : Prop := Claim7.holds Tryz.pinned (.plain (OpenSpec.upto sampleGroupsSpec)) sampleGroupsUptoCard

/-- THE SECOND FORM's CARD OF 'latecomerlaw15.SampleThins'. -/
def sampleThinsUptoCard : Claim7 := { stood := { row := sampleThinsUptoRow, standIns := [], harness := (true, "2a97a75b54208293b8703f7ffff8ed153be5fbcfb1245d5203b9a6abdc4a9615"), looks := true }, kinds := [], alts := [], laidByText := true, laidKinds := [.data, .data, .data, .data, .sentinel, .sentinel, .data, .pinned], laidTests := true, laidLooks := .later }
def SampleThinsUptoCardSaid : Prop := Claim7.holds Tryz.pinned (.plain (OpenSpec.upto sampleThinsSpec)) sampleThinsUptoCard

/-- THE SECOND FORM's CARD OF 'latecomerlaw15.SampleBudget'. -/
def sampleBudgetUptoCard : Claim7 := { stood := { row := sampleBudgetUptoRow, standIns := [], harness := (true, "2a97a75b54208293b8703f7ffff8ed153be5fbcfb1245d5203b9a6abdc4a9615"), looks := true }, kinds := [], alts := [], laidByText := true, laidKinds := [.data, .data, .data, .data, .sentinel, .sentinel, .data, .pinned], laidTests := true, laidLooks := .later }
def SampleBudgetUptoCardSaid : Prop := Claim7.holds Tryz.pinned (.plain (OpenSpec.upto sampleBudgetSpec)) sampleBudgetUptoCard
end Rows
end Go.Proofs.YtjgjeccfhmlcnaaGreatDoor
