/-
  Contracts and plain lemmas. By an AI agent.
-/
import Derived.Test.YtnocjgmmglmfiaaGreatDoorEng
import Derived.Test.YtnocjgmmglmfiaaGreatDoorProg
set_option linter.unusedSimpArgs false
set_option linter.unusedVariables false
set_option linter.unusedSectionVars false
namespace Go.Proofs.YtnocjgmmglmfiaaGreatDoor
open Go Go.Eng Go.Shelf
set_option maxRecDepth 100000
set_option linter.unusedVariables false
end Go.Proofs.YtnocjgmmglmfiaaGreatDoor
