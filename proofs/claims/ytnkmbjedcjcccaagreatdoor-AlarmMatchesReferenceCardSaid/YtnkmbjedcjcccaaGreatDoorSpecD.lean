/-
  Contracts and plain lemmas. By an AI agent.
-/
import Derived.Test.YtnkmbjedcjcccaaGreatDoorEngW
import Derived.Test.YtnkmbjedcjcccaaGreatDoorProg
set_option linter.all false
namespace Go.Proofs.YtnkmbjedcjcccaaGreatDoor
open Tryz
open Go Go.Eng Go.Shelf
set_option maxRecDepth 100000
def iB(P:Program)(a:Value)(w:World)(R:Ending->World->Prop):Prop:=
 Bx P 28 a w fun b w=>
 Al P 4 w fun d w=>
 Fa P 28 b 0 w fun e w=>
 Ld P 25 e w fun f w=>
 Cl P 41 #[f,(bh [49])] w (fun c w=>Df P 40 #[d] (.panicking c) w (fun w=>Rc P 4 d w fun g=>R (.returned g) w) R) fun i w=>
 Un P .not i w fun j w=>
 Gd j false (fun k=>Fa P 28 b 1 w k) w fun l w=>
 Gd j false (fun k=>Ld P 26 l w k) w fun m w=>
 Gd j false (fun k=>Bt P .len #[26] 3 #[m] w k) w fun n w=>
 Gd j false (fun k=>Bn P .gtr 3 true n (.int .i64 12) w k) w fun o w=>
 cH j (.bool true) o w fun p w=>
 Gd p false (fun k=>Fa P 28 b 1 w k) w fun q w=>
 Gd p false (fun k=>Ld P 26 q w k) w fun r w=>
 Gd p false (fun k=>Cl P 42 #[r,(.func (.func 43) #[] #[])] w (fun c w=>Df P 40 #[d] (.panicking c) w (fun w=>Rc P 4 d w fun g=>R (.returned g) w) R) k) w fun s w=>
 cH p (.bool true) s w fun u w=>
 If u
 (cL P 4 d (.bool false) w fun w=>
 Df P 40 #[d] .returning w (fun w=>Rc P 4 d w fun g=>R (.returned g) w) R)
 (Dv P false (Instr.loadAt 28 b) w.drew fun v=>
 Dv P true (Instr.fieldAt 28 b 0) w.drew fun x=>
 Dv P false (Instr.loadAt 25 x) w.drew fun y=>
 Cl P 45 #[v] w.drew (fun c w=>Df P 40 #[d] (.panicking c) w (fun w=>Rc P 4 d w fun g=>R (.returned g) w) R) fun z w=>
 Ke P (Instr.loadAt 25 x) y w <|
 Cl P 34 #[z,y] w (fun c w=>Df P 40 #[d] (.panicking c) w (fun w=>Rc P 4 d w fun g=>R (.returned g) w) R) fun A w=>
 Dv P true (bn .leq 3 true A (.int .i64 0)) w fun B=>
 cL P 4 d B w fun w=>
 Df P 40 #[d] .returning w (fun w=>Rc P 4 d w fun g=>R (.returned g) w) R)
theorem jH{t0:Value}{w:World}{R:Ending->World->Prop}(hE:Enters prog 40)(h:iB prog t0 w R):Calls prog 13 #[t0] w R:=
 OI (hA:=.z) (hB:=(.sq (.sq .z (.cd (.sq .z .z) .z)) (.sq (.dr (.pur false 0 (.pur true 2 (.pur false 3 (.eff 1 [3] (.eff 4 [] (.pur true 5 (.eff 6 [] .done)))))))) .z))) (args:=[t0]) func13 rfl (by kernel_rfl) (by kernel_rfl) (by kernel_rfl) (by kernel_rfl) (by kernel_rfl) hE (Eq.mp (by kernel_rfl) h)
theorem dZ:Enters prog 13:=enters_of func13 (by kernel_rfl) rfl
end Go.Proofs.YtnkmbjedcjcccaaGreatDoor
