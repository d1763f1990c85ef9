/-
  Contracts and plain lemmas. By an AI agent.
-/
import Derived.Test.YtjgjeccfhmlcnaaGreatDoorRefY
set_option linter.unusedSimpArgs false
set_option linter.unusedVariables false
set_option linter.unusedSectionVars false
namespace Go.Proofs.YtjgjeccfhmlcnaaGreatDoor
open Go Go.Eng Go.Proofs Go.Num Go.RowKit
set_option maxRecDepth 100000
section
variable {x y : Int} {w : World} (hx : x.natAbs < MaxI) (hy : y.natAbs < MaxI)
include hx hy
end
end Go.Proofs.YtjgjeccfhmlcnaaGreatDoor
