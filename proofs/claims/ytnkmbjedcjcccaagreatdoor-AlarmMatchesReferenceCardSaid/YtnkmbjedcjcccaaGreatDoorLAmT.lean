/-
  Contracts and plain lemmas. By an AI agent.
-/
import Derived.Test.YtnkmbjedcjcccaaGreatDoorEng
import Derived.Test.YtnkmbjedcjcccaaGreatDoorProg
set_option linter.all false
namespace Go.Proofs.YtnkmbjedcjcccaaGreatDoor
open Go Go.Eng Go.Shelf
set_option maxRecDepth 100000
variable{t0 t1 t2 t3 t4 t5 t6:Value}{w:World}{R:Ending->World->Prop}
end Go.Proofs.YtnkmbjedcjcccaaGreatDoor
