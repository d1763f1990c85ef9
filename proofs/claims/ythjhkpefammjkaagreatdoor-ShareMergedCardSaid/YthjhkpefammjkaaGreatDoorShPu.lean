/-
  Contracts and plain lemmas. By an AI agent.
-/
import Derived.Test.YthjhkpefammjkaaGreatDoorLShPu
import Derived.Test.YthjhkpefammjkaaGreatDoorShPt
set_option linter.unusedSimpArgs false
set_option linter.unusedVariables false
set_option linter.unusedSectionVars false
namespace Go.Proofs.YthjhkpefammjkaaGreatDoor
open Go Go.Eng Go.Proofs Go.Num Go.RowKit Go.Shr
set_option maxRecDepth 100000
section
variable {w0 : World} {n0 n1 n2 : Int} {v szv raw : Value} {xs ss rs : List Int} (hn0 : I64 n0) (hn1 : I64 n1) (hn2 : I64 n2) (hv : SlC w0 1 v xs.length (xs.flatMap fI)) (hl : xs.length ≤ 9223372036854775807) (hx : ∀ x ∈ xs, I64 x)
 (hs : SlC w0 1 szv ss.length (ss.flatMap fI)) (hsl : ss.length ≤ 9223372036854775807) (hr : SlC w0 1 raw rs.length (rs.flatMap fI)) (hrl : rs.length ≤ 9223372036854775807) (hT : Tab w0) (hF : FacV w0)
include hn0 hn1 hn2 hv hl hx hs hsl hr hrl hT hF
end
end Go.Proofs.YthjhkpefammjkaaGreatDoor
