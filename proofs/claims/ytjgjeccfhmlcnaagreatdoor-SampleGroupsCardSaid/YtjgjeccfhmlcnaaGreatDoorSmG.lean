/-
  Contracts and plain lemmas. By an AI agent.
-/
import Derived.Test.YtjgjeccfhmlcnaaGreatDoorLSmG
import Derived.Test.YtjgjeccfhmlcnaaGreatDoorSmF
set_option linter.unusedSimpArgs false
set_option linter.unusedVariables false
set_option linter.unusedSectionVars false
namespace Go.Proofs.YtjgjeccfhmlcnaaGreatDoor
open Go Go.Eng Go.Proofs Go.Num Go.RowKit
open Go.Smp (Gp sF sD Gok Le Inv num pass Stb kD kOk kAll okAll sumN' scl)
set_option maxRecDepth 100000
section
variable {w0 : World} {v : Value} {l : List I2} {c c2 c3 : Int} (hT : Tab w0) (hs : ∀ {W : World}, Ext w0 W → Calls Tryz.prog 8 #[] W (Ret fun r w' => Ext W w' ∧ r = .bool true)) (hv : SlC w0 2 v l.length (l.flatMap fT)) (hok : I2ok l) (hl : l.length ≤ 9223372036854775807) (hc : Iw c) (hc2 : Iw c2) (hc3 : Iw c3)
include hT hs hv hok hl hc hc2 hc3
end
end Go.Proofs.YtjgjeccfhmlcnaaGreatDoor
