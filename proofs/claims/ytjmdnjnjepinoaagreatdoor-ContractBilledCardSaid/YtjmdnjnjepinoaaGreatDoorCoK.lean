/-
  Contracts and plain lemmas. By an AI agent.
-/
import Derived.Test.YtjmdnjnjepinoaaGreatDoorCoJ
set_option linter.unusedSimpArgs false
set_option linter.unusedVariables false
set_option linter.unusedSectionVars false
namespace Go.Proofs.YtjmdnjnjepinoaaGreatDoor
open Go Go.Eng Go.Proofs Go.Num Go.RowKit
set_option maxRecDepth 100000
set_option linter.unusedVariables false
set_option linter.unusedSectionVars false
section
variable {w0 : World} {v : Value} {l : List RS} {a : Int} (hv : SlR w0 v l) (hk : RSok l) (hll : l.length ≤ 9223372036854775807) (haI : I64 a)
include hv hk hll haI
end
end Go.Proofs.YtjmdnjnjepinoaaGreatDoor
