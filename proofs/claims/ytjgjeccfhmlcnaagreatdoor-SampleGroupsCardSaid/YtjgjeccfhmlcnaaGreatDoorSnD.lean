/-
  Contracts and plain lemmas. By an AI agent.
-/
import Derived.Test.YtjgjeccfhmlcnaaGreatDoorSmY
import Derived.Test.YtjgjeccfhmlcnaaGreatDoorSmF
import Derived.Test.YtjgjeccfhmlcnaaGreatDoorSmG
set_option linter.unusedSimpArgs false
set_option linter.unusedVariables false
set_option linter.unusedSectionVars false
namespace Go.Proofs.YtjgjeccfhmlcnaaGreatDoor
open Go Go.Eng Go.Proofs Go.Num Go.RowKit
set_option maxRecDepth 100000
structure EnR (w : World) : Prop where
 hE : En w
 hR : Rnd w
theorem EnR.ext {w w' : World} (h : EnR w) (x : Ext w w') : EnR w' := ⟨h.hE.ext x, h.hR.ext x⟩
theorem EnR.sane {w : World} (h : EnR w) : ∀ {W : World}, Ext w W → Calls Tryz.prog 8 #[] W (Ret fun r w' => Ext W w' ∧ r = .bool true) := fun x => c_sane (h.hE.ext x) (h.hR.ext x)
section
variable {w0 : World} {v : Value} {l : List I2} {c c2 c3 : Int} (he : EnR w0) (hv : SlC w0 2 v l.length (l.flatMap fT)) (hok : I2ok l) (hl : l.length ≤ 9223372036854775807) (hc : Iw c) (hc2 : Iw c2) (hc3 : Iw c3)
include he hv hok hl hc
include hc2 hc3
end
end Go.Proofs.YtjgjeccfhmlcnaaGreatDoor
