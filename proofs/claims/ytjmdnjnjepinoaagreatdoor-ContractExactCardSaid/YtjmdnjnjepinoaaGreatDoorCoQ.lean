/-
  Contracts and plain lemmas. By an AI agent.
-/
import Derived.Test.YtjmdnjnjepinoaaGreatDoorCoP
set_option linter.unusedSimpArgs false
set_option linter.unusedVariables false
set_option linter.unusedSectionVars false
namespace Go.Proofs.YtjmdnjnjepinoaaGreatDoor
open Go Go.Eng Go.Proofs Go.Num Go.RowKit
set_option maxRecDepth 100000
set_option linter.unusedVariables false
set_option linter.unusedSectionVars false
section
variable {w0 : World} {c : CT} {v : Value} {l : List LE} (hc : CTk c) (hv : SlC w0 3 v l.length (l.flatMap fL)) (hs : ∀ e ∈ l, SlC w0 2 (.slice e.a e.n e.k) e.sh.length (e.sh.flatMap fR)) (hk : ∀ e ∈ l, LEk e) (hll : l.length ≤ 1000)
include hc hv hs hk hll
end
end Go.Proofs.YtjmdnjnjepinoaaGreatDoor
