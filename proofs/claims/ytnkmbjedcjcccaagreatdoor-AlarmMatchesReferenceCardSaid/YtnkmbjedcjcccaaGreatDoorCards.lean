/-
  DERIVED. GIVEN WITH THE SEED: THE CARDS: each row of YtnkmbjedcjcccaaGreatDoorRows.lean that lists a variable, with what it lists TIED to the program's text (the seventh form; the later family's looks); each row that meets fmt, with fmt's text TOLD by the authors' own Lean function (tested against real Go, not proved from fmt's source: count such statements apart). THE CARD IS WHAT COUNTS. Prove the row's statement (the work); the ties are given (YtnkmbjedcjcccaaGreatDoorTie.lean); close each card by the builder's one call (the guide's Derived/Test/ToyasCard.lean, 'card_holds'). Laid BY PROGRAM, IN A SANDBOX (cutbox-door.mjs). By AI agents, Wed Nov 11 2026. No macro, syntax, notation, axiom, sorry.
-/
import Derived.Test.YtnkmbjedcjcccaaGreatDoorRows
import GoSem.ClaimSeven
namespace Go.Proofs.YtnkmbjedcjcccaaGreatDoor
namespace Rows

/-- THE TIED CARD OF 'latecomerlaw28.AlarmMatchesReference'. -/
def alarmMatchesReferenceCard : Claim7 := { stood := { row := alarmMatchesReferenceRow, standIns := [], harness := (true, "4255584efad03188ed796437ce69eecbcea86259b36b3b4e8fc4873fc040759c"), looks := true }, kinds := [], alts := [], laidByText := true, laidKinds := [.data, .data, .data, .data, .sentinel, .sentinel, .data, .data, .pinned], laidTests := true, laidLooks := .later }
def AlarmMatchesReferenceCardSaid : Prop := Claim7.holds Tryz.pinned (.plain (OpenSpec.ofChange alarmMatchesReferenceSpec)) alarmMatchesReferenceCard

/-- THE TIED CARD OF 'latecomerlaw28.AlarmFalse'. -/
def alarmFalseCard : Claim7 := { stood := { row := alarmFalseRow, standIns := [], harness := (true, "4255584efad03188ed796437ce69eecbcea86259b36b3b4e8fc4873fc040759c"), looks := true }, kinds := [], alts := [], laidByText := true, laidKinds := [.data, .data, .data, .data, .sentinel, .sentinel, .data, .data, .pinned], laidTests := true, laidLooks := .later }
def AlarmFalseCardSaid : Prop := Claim7.holds Tryz.pinned (.plain (OpenSpec.ofChange alarmFalseSpec)) alarmFalseCard

/-- THE TIED CARD OF 'latecomerlaw28.AlarmBudget'. -/
def alarmBudgetCard : Claim7 := { stood := { row := alarmBudgetRow, standIns := [], harness := (true, "4255584efad03188ed796437ce69eecbcea86259b36b3b4e8fc4873fc040759c"), looks := true }, kinds := [], alts := [], laidByText := true, laidKinds := [.data, .data, .data, .data, .sentinel, .sentinel, .data, .data, .pinned], laidTests := true, laidLooks := .later }
def AlarmBudgetCardSaid : Prop := Claim7.holds Tryz.pinned (.plain (OpenSpec.ofChange alarmBudgetSpec)) alarmBudgetCard

/-- THE TIED CARD OF 'latecomerlaw28.AlarmCertain'. -/
def alarmCertainCard : Claim7 := { stood := { row := alarmCertainRow, standIns := [], harness := (true, "4255584efad03188ed796437ce69eecbcea86259b36b3b4e8fc4873fc040759c"), looks := true }, kinds := [], alts := [], laidByText := true, laidKinds := [.data, .data, .data, .data, .sentinel, .sentinel, .data, .data, .pinned], laidTests := true, laidLooks := .later }
def AlarmCertainCardSaid : Prop := Claim7.holds Tryz.pinned (.plain (OpenSpec.ofChange alarmCertainSpec)) alarmCertainCard

/-- THE TIED CARD OF 'latecomerlaw28.AlarmPortions'. -/
def alarmPortionsCard : Claim7 := { stood := { row := alarmPortionsRow, standIns := [], harness := (true, "4255584efad03188ed796437ce69eecbcea86259b36b3b4e8fc4873fc040759c"), looks := true }, kinds := [], alts := [], laidByText := true, laidKinds := [.data, .data, .data, .data, .sentinel, .sentinel, .data, .data, .pinned], laidTests := true, laidLooks := .later }
def AlarmPortionsCardSaid : Prop := Claim7.holds Tryz.pinned (.plain (OpenSpec.ofChange alarmPortionsSpec)) alarmPortionsCard

/-- THE TIED CARD OF 'latecomerlaw28.AlarmWealth'. -/
def alarmWealthCard : Claim7 := { stood := { row := alarmWealthRow, standIns := [], harness := (true, "4255584efad03188ed796437ce69eecbcea86259b36b3b4e8fc4873fc040759c"), looks := true }, kinds := [], alts := [], laidByText := true, laidKinds := [.data, .data, .data, .data, .sentinel, .sentinel, .data, .data, .pinned], laidTests := true, laidLooks := .later }
def AlarmWealthCardSaid : Prop := Claim7.holds Tryz.pinned (.plain (OpenSpec.ofChange alarmWealthSpec)) alarmWealthCard

/-- THE SECOND FORM's CARD OF 'latecomerlaw28.AlarmMatchesReference'. -/
def alarmMatchesReferenceUptoCard : Claim7 := { stood := { row := alarmMatchesReferenceUptoRow, standIns := [], harness := (true, "4255584efad03188ed796437ce69eecbcea86259b36b3b4e8fc4873fc040759c"), looks := true }, kinds := [], alts := [], laidByText := true, laidKinds := [.data, .data, .data, .data, .sentinel, .sentinel, .data, .data, .pinned], laidTests := true, laidLooks := .later }
def AlarmMatchesReferenceUptoCardSaid : Prop := Claim7.holds Tryz.pinned (.plain (OpenSpec.upto alarmMatchesReferenceSpec)) alarmMatchesReferenceUptoCard

/-- THE SECOND FORM's CARD OF 'latecomerlaw28.AlarmFalse'. -/
def alarmFalseUptoCard : Claim7 := { stood := { row := alarmFalseUptoRow, standIns := [], harness := (true, "4255584efad03188ed796437ce69eecbcea86259b36b3b4e8fc4873fc040759c"), looks := true }, kinds := [], alts := [], laidByText := true, laidKinds := [.data, .data, .data, .data, .sentinel, .sentinel, .data, .data, .pinned], laidTests := true, laidLooks := .later }
def AlarmFalseUptoCardSaid : Prop := Claim7.holds Tryz.pinned (.plain (OpenSpec.upto alarmFalseSpec)) alarmFalseUptoCard

/-- THE SECOND FORM's CARD OF 'latecomerlaw28.AlarmBudget'. -/
def alarmBudgetUptoCard : Claim7 := { stood := { row := alarmBudgetUptoRow, standIns := [], harness := (true, "4255584efad03188ed796437ce69eecbcea86259b36b3b4e8fc4873fc040759c"), looks := true }, kinds := [], alts := [], laidByText := true, laidKinds := [.data, .data, .data, .data, .sentinel, .sentinel, .data, .data, .pinned], laidTests := true, laidLooks := .later }
def AlarmBudgetUptoCardSaid : Prop := Claim7.holds Tryz.pinned (.plain (OpenSpec.upto alarmBudgetSpec)) alarmBudgetUptoCard

/-- THE SECOND FORM's CARD OF 'latecomerlaw28.AlarmCertain'. -/
def alarmCertainUptoCard : Claim7 := { stood := { row := alarmCertainUptoRow, standIns := [], harness := (true, "4255584efad03188ed796437ce69eecbcea86259b36b3b4e8fc4873fc040759c"), looks := true }, kinds := [], alts := [], laidByText := true, laidKinds := [.data, .data, .data, .data, .sentinel, .sentinel, .data, .data, .pinned], laidTests := true, laidLooks := .later }
def AlarmCertainUptoCardSaid : Prop := Claim7.holds Tryz.pinned (.plain (OpenSpec.upto alarmCertainSpec)) alarmCertainUptoCard

/-- THE SECOND FORM's CARD OF 'latecomerlaw28.AlarmPortions'. -/
def alarmPortionsUptoCard : Claim7 := { stood := { row := alarmPortionsUptoRow, standIns := [], harness := (true, "4255584efad03188ed796437ce69eecbcea86259b36b3b4e8fc4873fc040759c"), looks := true }, kinds := [], alts := [], laidByText := true, laidKinds := [.data, .data, .data, .data, .sentinel, .sentinel, .data, .data, .pinned], laidTests := true, laidLooks := .later }
def AlarmPortionsUptoCardSaid : Prop := Claim7.holds Tryz.pinned (.plain (OpenSpec.upto alarmPortionsSpec)) alarmPortionsUptoCard

/-- THE SECOND FORM's CARD OF 'latecomerlaw28.AlarmWealth'. -/
def alarmWealthUptoCard : Claim7 := { stood := { row := alarmWealthUptoRow, standIns := [], harness := (true, "4255584efad03188ed796437ce69eecbcea86259b36b3b4e8fc4873fc040759c"), looks := true }, kinds := [], alts := [], laidByText := true, laidKinds := [.data, .data, .data, .data, .sentinel, .sentinel, .data, .data, .pinned], laidTests := true, laidLooks := .later }
def AlarmWealthUptoCardSaid : Prop := Claim7.holds Tryz.pinned (.plain (OpenSpec.upto alarmWealthSpec)) alarmWealthUptoCard
end Rows
end Go.Proofs.YtnkmbjedcjcccaaGreatDoor
