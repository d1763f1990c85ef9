/-
  Contracts and plain lemmas. By an AI agent.
-/
import Derived.Test.YtdbcpkihokagkaaGreatDoorUnJ
set_option linter.unusedSimpArgs false
set_option linter.unusedVariables false
set_option linter.unusedSectionVars false
namespace Go.Proofs.YtdbcpkihokagkaaGreatDoor
open Go Go.Eng Go.Proofs Go.Num Go.RowKit
set_option maxRecDepth 100000
section
variable {w0 : World} {a b : QT} (hka : QTk a) (hkb : QTk b)
include hka hkb
end
end Go.Proofs.YtdbcpkihokagkaaGreatDoor
