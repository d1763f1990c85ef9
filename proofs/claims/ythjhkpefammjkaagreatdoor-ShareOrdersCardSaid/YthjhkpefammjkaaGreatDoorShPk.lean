/-
  Contracts and plain lemmas. By an AI agent.
-/
import Derived.Test.YthjhkpefammjkaaGreatDoorLShPk
import Derived.Test.YthjhkpefammjkaaGreatDoorShPi
set_option linter.unusedSimpArgs false
set_option linter.unusedVariables false
set_option linter.unusedSectionVars false
namespace Go.Proofs.YthjhkpefammjkaaGreatDoor
open Go Go.Eng Go.Proofs Go.Num Go.RowKit Go.Shr
set_option maxRecDepth 100000
abbrev VOk (n : Nat) (l : List Int) : Prop := n ≤ 6 ∧ l.length = 2 ^ n ∧ ∀ x ∈ l, wOk x
section
variable {w0 : World} {n al : Int} {v raw : Value} {xs rs : List Int} (hn : I64 n) (ha : I64 al) (hv : SlC w0 1 v xs.length (xs.flatMap fI)) (hl : xs.length ≤ 9223372036854775807) (hx : ∀ x ∈ xs, I64 x)
 (hr : SlC w0 1 raw rs.length (rs.flatMap fI)) (hrl : rs.length ≤ 9223372036854775807) (hT : Tab w0) (hF : FacV w0)
include hn ha hv hl hx hr hrl hT hF
end
end Go.Proofs.YthjhkpefammjkaaGreatDoor
