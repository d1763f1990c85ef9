/-
  Contracts and plain lemmas. By an AI agent.
-/
import Derived.Test.YtnocjgmmglmfiaaGreatDoorLEsX
import Derived.Test.YtnocjgmmglmfiaaGreatDoorEsW
set_option linter.unusedSimpArgs false
set_option linter.unusedVariables false
set_option linter.unusedSectionVars false
namespace Go.Proofs.YtnocjgmmglmfiaaGreatDoor
open Go Go.Eng Go.Proofs Go.Num Go.RowKit
set_option maxRecDepth 100000
set_option linter.unusedVariables false
set_option linter.unusedSectionVars false
section
variable {W : World} {v v' : Value} {l : List El} (he : En W) (hx : SlC W 2 v l.length (l.flatMap fX)) (h : MEs l)
include he hx h
end
end Go.Proofs.YtnocjgmmglmfiaaGreatDoor
