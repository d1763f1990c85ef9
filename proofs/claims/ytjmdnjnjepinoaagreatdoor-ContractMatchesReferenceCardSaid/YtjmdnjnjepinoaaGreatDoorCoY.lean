/-
  Contracts and plain lemmas. By an AI agent.
-/
import Derived.Test.YtjmdnjnjepinoaaGreatDoorLCoY
import Derived.Test.YtjmdnjnjepinoaaGreatDoorCoX
import Derived.Test.YtjmdnjnjepinoaaGreatDoorEsA
set_option linter.unusedSimpArgs false
set_option linter.unusedVariables false
set_option linter.unusedSectionVars false
namespace Go.Proofs.YtjmdnjnjepinoaaGreatDoor
open Go Go.Eng Go.Proofs Go.Num Go.RowKit
set_option maxRecDepth 100000
section
variable {w0 : World} {v : Value} {x : List I2} {amount : Int} (he : En w0) (hv : SlC w0 2 v x.length (x.flatMap f2)) (hI : ∀ a ∈ x, I64 a.1 ∧ I64 a.2) (hll : x.length ≤ 9223372036854775807) (ham : I64 amount)
include he hv hI hll ham
end
end Go.Proofs.YtjmdnjnjepinoaaGreatDoor
