/-
  Contracts and plain lemmas. By an AI agent.
-/
import Derived.Test.YthjhkpefammjkaaGreatDoorShPm
import Derived.Test.YthjhkpefammjkaaGreatDoorPlain
set_option linter.unusedSimpArgs false
set_option linter.unusedVariables false
set_option linter.unusedSectionVars false
namespace Go.Proofs.YthjhkpefammjkaaGreatDoor
open Go Go.Eng Go.Proofs Go.Num Go.RowKit Go.Shr
set_option maxRecDepth 100000
section
variable {w0 : World} {v : Value} {l : List Int} (hv : SlC w0 1 v l.length (l.flatMap fI)) {n i j : Nat} (hn : n ≤ 6) (hln : l.length = 2 ^ n) (hi : i < n) (hj : j < n)
include hv hn hln hi hj
end
section
variable {w0 : World} {v : Value} {l : List Int} (hv : SlC w0 1 v l.length (l.flatMap fI)) {n : Nat} (hn : n ≤ 6) (hln : l.length = 2 ^ n) (hw : ∀ x ∈ l, wOk x)
include hv hn hln hw
end
section
variable {w0 : World} {sv : Value} {ks : List Nat} (hs : SlC w0 1 sv ks.length (ks.flatMap fN)) (hl : ks.length ≤ 7) (hk : ∀ k ∈ ks, k ≤ 10) (hm : (many ks).1 ≤ 1000)
include hs hl hk hm
end
end Go.Proofs.YthjhkpefammjkaaGreatDoor
