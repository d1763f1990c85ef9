/-
  Contracts and plain lemmas. By an AI agent.
-/
import Derived.Test.YthjhkpefammjkaaGreatDoorShPp
set_option linter.unusedSimpArgs false
set_option linter.unusedVariables false
set_option linter.unusedSectionVars false
namespace Go.Proofs.YthjhkpefammjkaaGreatDoor
open Go Go.Eng Go.Proofs Go.Num Go.RowKit Go.Shr
set_option maxRecDepth 100000
section
variable {w0 : World} {v sv : Value} {ks : List Nat} {l : List Int} (hs : SlC w0 1 sv ks.length (ks.flatMap fN)) (hv : SlC w0 1 v l.length (l.flatMap fI))
include hs hv
end
end Go.Proofs.YthjhkpefammjkaaGreatDoor
