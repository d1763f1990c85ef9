/-
  Contracts and plain lemmas. By an AI agent.
-/
import Derived.Test.YthjhkpefammjkaaGreatDoorLShPl
import Derived.Test.YthjhkpefammjkaaGreatDoorShPk
set_option linter.unusedSimpArgs false
set_option linter.unusedVariables false
set_option linter.unusedSectionVars false
namespace Go.Proofs.YthjhkpefammjkaaGreatDoor
open Go Go.Eng Go.Proofs Go.Num Go.RowKit Go.Shr
set_option maxRecDepth 100000
theorem md_g {l : List Int} {s : Nat} (h : ∀ x ∈ l, mdOk x) (hs : s < l.length) : mdOk (g l s) := h _ (List.mem_of_getElem? (g_get hs))
section
variable {w0 : World} {n a0 a1 sh : Int} {v v' : Value} {xs ys : List Int} (hn : I64 n) (ha0 : I64 a0) (ha1 : I64 a1) (hsh : I64 sh) (hv : SlC w0 1 v xs.length (xs.flatMap fI)) (hl : xs.length ≤ 9223372036854775807) (hx : ∀ x ∈ xs, I64 x)
 (hv' : SlC w0 1 v' ys.length (ys.flatMap fI)) (hl' : ys.length ≤ 9223372036854775807) (hy : ∀ x ∈ ys, I64 x) (hT : Tab w0) (hF : FacV w0)
include hn ha0 ha1 hsh hv hl hx hv' hl' hy hT hF
end
end Go.Proofs.YthjhkpefammjkaaGreatDoor
