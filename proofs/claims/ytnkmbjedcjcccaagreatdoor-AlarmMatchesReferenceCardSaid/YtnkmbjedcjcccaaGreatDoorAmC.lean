/-
  Contracts and plain lemmas. By an AI agent.
-/
import Derived.Test.YtnkmbjedcjcccaaGreatDoorAmB
import Derived.Test.YtnkmbjedcjcccaaGreatDoorTyp
set_option linter.all false
namespace Go.Proofs.YtnkmbjedcjcccaaGreatDoor
open Go Go.Eng Go.Proofs Go.Num Go.RowKit
open Go.Alm (Ft Wt Sm VW VA dn gO obs obs1 dD obsN fresh fL TR EK Wl)
set_option maxRecDepth 100000
end Go.Proofs.YtnkmbjedcjcccaaGreatDoor
namespace Go.Proofs.YtnkmbjedcjcccaaGreatDoor
open Go Go.Eng
set_option maxRecDepth 100000
end Go.Proofs.YtnkmbjedcjcccaaGreatDoor
namespace Go.Proofs.YtnkmbjedcjcccaaGreatDoor
open Go Go.Eng Go.Proofs Go.Num Go.RowKit
open Go.Alm (Ft Wt Sm VW VA dn gO obs obs1 dD obsN fresh fL TR EK Wl)
set_option maxRecDepth 100000
section
variable{w0 W:World}{R:Ending->World->Prop}{k1:Value->Value->World->Prop}{fv:Value}{fl:List Ft}{i s ga gb:Nat}{f:Ft}{z:Wt}{E:Rat}
 (hE:En w0) (sF:dJ w0 10 fv fl.length (fl.flatMap fF)) (hn:fl.length<=400) (hf:fl[i]?=some f) (hfi:FI f) (hs:s<=400)
include hE sF hn hf hfi hs
end
end Go.Proofs.YtnkmbjedcjcccaaGreatDoor
namespace Go.Proofs.YtnkmbjedcjcccaaGreatDoor
open Go Go.Eng Go.Proofs Go.Num Go.RowKit
open Go.Alm (Ft Wt Sm VW VA dn gO obs obs1 dD obsN fresh fL TR EK Wl)
set_option maxRecDepth 100000
section
variable{w0:World}{b:Int}{x:I6}{v2:Value}{l3:List I3}(hE:En w0)(hb:eS b)(hx:∀ i,eS (x i))(h2:dJ w0 3 v2 l3.length (l3.flatMap fT))(o2:E6 l3)(n2:l3.length<=9223372036854775807)
include hE hb hx h2 o2 n2
end
end Go.Proofs.YtnkmbjedcjcccaaGreatDoor
