/-
  Contracts and plain lemmas. By an AI agent.
-/
import Derived.Test.YtjgjeccfhmlcnaaGreatDoorQRatB
set_option linter.unusedSimpArgs false
set_option linter.unusedVariables false
set_option linter.unusedSectionVars false
namespace Go.Proofs.YtjgjeccfhmlcnaaGreatDoor
open Go Go.Eng Go.Proofs Go.Num Go.RowKit
set_option maxRecDepth 100000
section
variable {n d m c : List UInt8} {w : World} (hn : n.length ≤ 1000000) (hd : d.length ≤ 1000000) (hm : m.length ≤ 1000000) (hc : c.length ≤ 1000000)
include hn hd
end
section
variable {n d m c : List UInt8} {w : World} (hn : n.length ≤ 1000000) (hd : d.length ≤ 1000000) (hm : m.length ≤ 1000000) (hc : c.length ≤ 1000000)
include hn hd hm hc
end
section
variable {n d m c : List UInt8} {w : World} (hn : n.length ≤ 1000000) (hd : d.length ≤ 1000000) (hm : m.length ≤ 1000000) (hc : c.length ≤ 1000000)
include hn hd hm hc
end
section
variable {x y : Rat} {w : World} (hx : RB x) (hy : RB y)
include hx hy
end
section
variable {n d m c : List UInt8} {w : World} (hn : n.length ≤ 1000000) (hd : d.length ≤ 1000000) (hm : m.length ≤ 1000000) (hc : c.length ≤ 1000000)
include hn hd hm hc
end
end Go.Proofs.YtjgjeccfhmlcnaaGreatDoor
