/-
  Contracts and plain lemmas. By an AI agent.
-/
import Derived.Test.YthjhkpefammjkaaGreatDoorShPr
set_option linter.unusedSimpArgs false
set_option linter.unusedVariables false
set_option linter.unusedSectionVars false
namespace Go.Proofs.YthjhkpefammjkaaGreatDoor
open Go Go.Eng Go.Proofs Go.Num Go.RowKit Go.Shr
set_option maxRecDepth 100000
section
variable {w0 : World} {v : Value} {l : List Int} (hv : SlC w0 1 v l.length (l.flatMap fI)) (hl : l.length ≤ 1000000) (hno : ¬ ∃ n, VOk n l)
include hv hl hno
end
section
variable {w0 : World} {v : Value} {l : List Int} (hv : SlC w0 1 v l.length (l.flatMap fI))
include hv
end
structure CbOk (ks : List Nat) (l : List Int) : Prop where
 le3 : ks.length ≤ 3
 sz : ∀ k ∈ ks, 1 ≤ k ∧ k ≤ 3
 n5 : (many ks).2 ≤ 5
 len : l.length = (many ks).1
 ok : ∀ x ∈ l, mdOk x
section
variable {w0 : World} {n0 n1 n2 : Int} {v : Value} {xs : List Int} (hn0 : I64 n0) (hn1 : I64 n1) (hn2 : I64 n2) (hv : SlC w0 1 v xs.length (xs.flatMap fI)) (hl : xs.length ≤ 9223372036854775807) (hx : ∀ x ∈ xs, I64 x)
include hn0 hn1 hn2 hv hl hx
end
end Go.Proofs.YthjhkpefammjkaaGreatDoor
