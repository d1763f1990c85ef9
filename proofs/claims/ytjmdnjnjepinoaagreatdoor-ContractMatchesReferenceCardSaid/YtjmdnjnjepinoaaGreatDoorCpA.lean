/-
  Contracts and plain lemmas. By an AI agent.
-/
import Derived.Test.YtjmdnjnjepinoaaGreatDoorLCpA
import Derived.Test.YtjmdnjnjepinoaaGreatDoorCoZ
set_option linter.unusedSimpArgs false
set_option linter.unusedVariables false
set_option linter.unusedSectionVars false
namespace Go.Proofs.YtjmdnjnjepinoaaGreatDoor
open Go Go.Eng Go.Proofs Go.Num Go.RowKit
set_option maxRecDepth 100000
theorem take_fI (l : List Int) (k : Nat) : (l.flatMap fI).take (k * 1) = (l.take k).flatMap fI := by
 rw [flat_fI, flat_fI, Nat.mul_one, List.map_take]
section
variable {w0 : World} {v : Value} {l : List Int} {x0 x1 x2 x3 : Int} (he : En w0) (hv : SlC w0 1 v l.length (l.flatMap fI)) (hI : ∀ a ∈ l, I64 a) (hll : l.length ≤ 9223372036854775807) (h0 : I64 x0) (h1 : I64 x1) (h2 : I64 x2) (h3 : I64 x3)
include he hv hI hll h0 h1 h2 h3
end
end Go.Proofs.YtjmdnjnjepinoaaGreatDoor
