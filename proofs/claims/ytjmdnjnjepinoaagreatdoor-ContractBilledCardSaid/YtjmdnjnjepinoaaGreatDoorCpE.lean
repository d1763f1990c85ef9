/-
  Contracts and plain lemmas. By an AI agent.
-/
import Derived.Test.YtjmdnjnjepinoaaGreatDoorLCpE
import Derived.Test.YtjmdnjnjepinoaaGreatDoorCpD
set_option linter.unusedSimpArgs false
set_option linter.unusedVariables false
set_option linter.unusedSectionVars false
namespace Go.Proofs.YtjmdnjnjepinoaaGreatDoor
open Go Go.Eng Go.Proofs Go.Num Go.RowKit
set_option maxRecDepth 100000
set_option linter.unusedVariables false
set_option linter.unusedSectionVars false
section
variable {W : World} {c : CT} (he : En W) (hc : CTk c)
include he hc
end
section
variable {W : World} {u : Value} {l : List Du} (hu : SlC W 3 u l.length (l.flatMap fU)) (hI : ∀ d ∈ l, DuI d) (hl : l.length ≤ 1000)
include hu hI hl
end
section
variable {w0 : World} {raw : CT} {x0 x1 x2 x3 : Int} {v2 v3 v5 v7 : Value} {l : List Int} {sh osh : List RS} {amount orq olt : Int} {y : List I5} {oa : Option Addr} {on ok : Nat} {du : List Du}
 (he : En w0) (r1 : I64 raw.tm) (r2 : I64 raw.gr) (r3 : I64 raw.cap) (h0 : I64 x0) (h1 : I64 x1) (h2 : I64 x2) (h3 : I64 x3)
 (hv2 : SlC w0 1 v2 l.length (l.flatMap fI)) (hlI : ∀ a ∈ l, I64 a) (hll : l.length ≤ 9223372036854775807)
 (hv3 : SlC w0 2 v3 sh.length (sh.flatMap fR)) (hsl : sh.length ≤ 9223372036854775807) (ham : I64 amount)
 (hv5 : SlC w0 5 v5 y.length (y.flatMap f5)) (hyI : I5ok y) (hyl : y.length ≤ 9223372036854775807)
 (o1 : I64 orq) (o2 : I64 olt) (hvo : SlC w0 2 (.slice oa on ok) osh.length (osh.flatMap fR)) (hol : osh.length ≤ 9223372036854775807)
 (hv7 : SlC w0 3 v7 du.length (du.flatMap fU)) (hdI : ∀ d ∈ du, DuI d) (hdl : du.length ≤ 9223372036854775807)
include he r1 r2 r3 h0 h1 h2 h3 hv2 hlI hll hv3 hsl ham hv5 hyI hyl o1 o2 hvo hol hv7 hdI hdl
end
end Go.Proofs.YtjmdnjnjepinoaaGreatDoor
