/-
  Contracts and plain lemmas. By an AI agent.
-/
import Derived.Test.YtnkmbjedcjcccaaGreatDoorEng
import Derived.Test.YtnkmbjedcjcccaaGreatDoorProg
set_option linter.all false
namespace Go.Proofs.YtnkmbjedcjcccaaGreatDoor
open Tryz
open Go Go.Eng Go.Shelf
set_option maxRecDepth 100000
variable{t0 t1 t2 t3:Value}{w:World}{R:Ending->World->Prop}
def se(P:Program)(a b:Value)(w:World)(R:Ending->World->Prop):Prop:=
 Bx P 25 a w fun c w=>
 Bx P 25 b w fun d w=>
 Al P 25 w fun e w=>
 Ld P 25 c w fun f w=>
 Ld P 25 d w fun g w=>
 Cl P 67 #[(.func (.func 68) #[] #[]),f,g] w (Pk R) fun i w=>
 Ex i 0 w fun j w=>
 Ex i 1 w fun k w=>
 cL P 25 e j w fun w=>
 Rc P 25 e w fun l=>
 R (.returned (.tuple #[l,k])) w
theorem zY(h:se prog t0 t1 w R):Calls prog 31 #[t0,t1] w R:=
 dW (.sq .z (.sq .z .z)) [t0,t1] func31 (by kernel_rfl) (by kernel_rfl) h
theorem sh:Enters prog 31:=enters_of func31 (by kernel_rfl) rfl
def sj(P:Program)(a b:Value)(w:World)(R:Ending->World->Prop):Prop:=
 Bx P 25 a w fun c w=>
 Bx P 25 b w fun d w=>
 Al P 25 w fun e w=>
 Bd P 113 [] w fun f w=>
 Bx P 113 f w fun g w=>
 Ld P 25 c w fun i w=>
 Ld P 25 d w fun j w=>
 Bs P 147 2 [(0,i),(1,j)] w fun k w=>
 Cl P 69 #[g,k] w (Pk R) fun l w=>
 Fa P 25 c 0 w fun m w=>
 Ld P 9 m w fun n w=>
 Fa P 25 d 0 w fun o w=>
 Ld P 9 o w fun p w=>
 Cl P 70 #[g,n,p] w (Pk R) fun q w=>
 Fa P 25 c 1 w fun r w=>
 Ld P 9 r w fun s w=>
 Fa P 25 d 1 w fun u w=>
 Ld P 9 u w fun v w=>
 Cl P 70 #[g,s,v] w (Pk R) fun x w=>
 Cl P 71 #[g,q,x] w (Pk R) fun y w=>
 Ex y 0 w fun z w=>
 Ex y 1 w fun A w=>
 cL P 25 e z w fun w=>
 Rc P 25 e w fun B=>
 R (.returned (.tuple #[B,A])) w
theorem zZ(h:sj prog t0 t1 w R):Calls prog 32 #[t0,t1] w R:=
 dW (.sq .z (.sq .z (.sq .z (.sq .z (.sq .z .z))))) [t0,t1] func32 (by kernel_rfl) (by kernel_rfl) h
theorem gB:Enters prog 32:=enters_of func32 (by kernel_rfl) rfl
def ip(P:Program)(a b:Value)(w:World)(R:Ending->World->Prop):Prop:=
 Bx P 25 a w fun c w=>
 Bx P 25 b w fun d w=>
 Ld P 25 c w fun e w=>
 Cl P 72 #[e] w (Pk R) fun f w=>
 Un P .not f w fun g w=>
 Gd g false (fun k=>Ld P 25 d w k) w fun i w=>
 Gd g false (fun k=>Cl P 72 #[i] w (Pk R) k) w fun j w=>
 Gd g false (fun k=>Un P .not j w k) w fun l w=>
 cH g (.bool true) l w fun m w=>
 If m
 (R (.returned (.int .i64 0)) w)
 (jt (.int .i64 1) w (fun n w o=>
 Fa P 25 c 0 w fun p w=>
 Ld P 9 p w fun q w=>
 Fa P 25 c 1 w fun r w=>
 Ld P 9 r w fun s w=>
 Cl P 73 #[q,s] w (Pk R) fun u w=>
 Ex u 0 w fun v w=>
 Ex u 1 w fun x w=>
 Ex u 2 w fun y w=>
 Fa P 25 d 0 w fun z w=>
 Ld P 9 z w fun A w=>
 Fa P 25 d 1 w fun B w=>
 Ld P 9 B w fun C w=>
 Cl P 73 #[A,C] w (Pk R) fun D w=>
 Ex D 0 w fun E w=>
 Ex D 1 w fun F w=>
 Ex D 2 w fun G w=>
 Cl P 74 #[v,E] w (Pk R) fun H w=>
 Bn P .neq 3 true H (.int .i64 0) w fun I w=>
 If I
 (Bn P .mul 3 false n H w fun J w=>
 R (.returned J) w)
 (Bn P .eql 9 true x (bh [48]) w fun L w=>
 Gd L true (fun k=>k F w) w fun M w=>
 Gd L true (fun k=>Bn P .eql 9 true M (bh [48]) w k) w fun N w=>
 cH L N (.bool false) w fun O w=>
 If O
 (R (.returned (.int .i64 0)) w)
 (Bn P .eql 9 true x (bh [48]) w fun S w=>
 If S
 (Un P .neg n w fun T w=>
 R (.returned T) w)
 (Bn P .eql 9 true F (bh [48]) w fun U w=>
 If U
 (R (.returned n) w)
 (gu P 25 c 1 w.drew fun V=>
 dL P 9 V w.drew fun W=>
 Dv P true (Instr.build 25 #[(0,W),(1,x)]) w.drew fun X=>
 gu P 25 d 1 w.drew fun Y=>
 dL P 9 Y w.drew fun Z=>
 Dv P true (Instr.build 25 #[(0,Z),(1,F)]) w.drew fun aa=>
 Dv P true (Op.unary .neg n) w.drew fun ab=>
 cL P 25 c X w.drew fun w=>
 cU P 9 Y Z w <|
 cL P 25 d aa w fun w=>
 o ab w))))))
theorem kd(h:ip prog t0 t1 w R):Calls prog 34 #[t0,t1] w R:=
 dW (.sq .z (.sc [5] [4,6,7,8,9,10,11,12,21,22,23,24,25,26,27,28,29,30,31,32,33,34,35,36,37,38,39,40,41,42,43,44,45,46,47,48,49,50,51,52,53,54,55,56,57,58,59,60,61,62,63,64,65,66,67,68,69,70,71,72,73] (.sq .z (.cd (.sq .z .z) .z)) .z (.sq .z (.sq .z (.sq (.sq .z (.bk (.sq .z (.cd (.sq .z .z) (.sq .z (.cd (.sq .z .z) (.sq .z (.cd (.sq .z .z) (.sq .z (.cd (.sq .z .z) .z)))))))))) (.sq (.dr (.pur true 0 (.pur false 1 (.pur true 2 (.pur true 3 (.pur true 4 (.pur false 5 (.pur true 6 (.pur true 7 (.pur true 8 (.pur true 9 (.eff 10 [5] (.eff 11 [] (.pur true 12 .done)))))))))))))) .z)))))) [t0,t1] func34 (by kernel_rfl) (by kernel_rfl) h
theorem cz:Enters prog 34:=enters_of func34 (by kernel_rfl) rfl
def sA(P:Program)(a b:Value)(w:World)(R:Ending->World->Prop):Prop:=
 Bx P 25 a w fun c w=>
 Bx P 25 b w fun d w=>
 Al P 25 w fun e w=>
 Ld P 25 c w fun f w=>
 Ld P 25 d w fun g w=>
 Cl P 67 #[(.func (.func 75) #[] #[]),f,g] w (Pk R) fun i w=>
 Ex i 0 w fun j w=>
 Ex i 1 w fun k w=>
 cL P 25 e j w fun w=>
 Rc P 25 e w fun l=>
 R (.returned (.tuple #[l,k])) w
theorem z7(h:sA prog t0 t1 w R):Calls prog 35 #[t0,t1] w R:=
 dW (.sq .z (.sq .z .z)) [t0,t1] func35 (by kernel_rfl) (by kernel_rfl) h
theorem sB:Enters prog 35:=enters_of func35 (by kernel_rfl) rfl
def eX(P:Program)(a b:Value)(w:World)(R:Ending->World->Prop):Prop:=
 Cl P 77 #[a,b] w (Pk R) fun c w=>
 Bn P .geq 3 true c (.int .i64 0) w fun d w=>
 R (.returned d) w
theorem ix(h:eX prog t0 t1 w R):Calls prog 42 #[t0,t1] w R:=
 dW (.sq .z (.sq .z .z)) [t0,t1] func42 (by kernel_rfl) (by kernel_rfl) h
theorem dR:Enters prog 42:=enters_of func42 (by kernel_rfl) rfl
def qL(P:Program)(a b:Value)(w:World)(R:Ending->World->Prop):Prop:=
 Bx P 25 a w fun c w=>
 Bx P 25 b w fun d w=>
 Ld P 25 c w fun e w=>
 Cl P 79 #[e] w (Pk R) fun f w=>
 Ld P 25 d w fun g w=>
 Cl P 79 #[g] w (Pk R) fun i w=>
 Un P .not f w fun j w=>
 Gd j false (fun k=>k i w) w fun l w=>
 Gd j false (fun k=>Un P .not l w k) w fun m w=>
 cH j (.bool true) m w fun n w=>
 If n
 (R (.returned (.int .i64 0)) w)
 (Fa P 25 c 0 w fun o w=>
 Ld P 9 o w fun p w=>
 Fa P 25 c 1 w fun q w=>
 Ld P 9 q w fun r w=>
 Fa P 25 d 0 w fun s w=>
 Ld P 9 s w fun u w=>
 Fa P 25 d 1 w fun v w=>
 Ld P 9 v w fun x w=>
 Sk (.int .i64 1) p r u x w (fun y z A B C w D=>
 Cl P 84 #[z,A] w (Pk R) fun E w=>
 Ex E 0 w fun F w=>
 Ex E 1 w fun G w=>
 Ex E 2 w fun H w=>
 Cl P 84 #[B,C] w (Pk R) fun I w=>
 Ex I 0 w fun J w=>
 Ex I 1 w fun L w=>
 Ex I 2 w fun M w=>
 Cl P 85 #[F,J] w (Pk R) fun N w=>
 Bn P .neq 3 true N (.int .i64 0) w fun O w=>
 If O
 (Bn P .mul 3 false y N w fun S w=>
 R (.returned S) w)
 (Bn P .eql 9 true G (bh [48]) w fun T w=>
 Gd T false (fun k=>k L w) w fun U w=>
 Gd T false (fun k=>Bn P .eql 9 true U (bh [48]) w k) w fun V w=>
 cH T (.bool true) V w fun W w=>
 If W
 (Cl P 86 #[G] w (Pk R) fun X w=>
 Cl P 86 #[L] w (Pk R) fun Y w=>
 Cl P 85 #[X,Y] w (Pk R) fun Z w=>
 Bn P .mul 3 false y Z w fun aa w=>
 R (.returned aa) w)
 (Un P .neg y w fun ab w=>
 D ab A G C L w))))
theorem yd(h:qL prog t0 t1 w R):Calls prog 48 #[t0,t1] w R:=
 dW (.sq .z (.sq .z (.sq .z (.sq (.sq .z (.cd (.sq .z .z) .z)) (.sq .z (.sq .z (.sq .z (.sq .z (.sq .z (.bk (.lp [7,8,9,10,11] [4,12,13,14,15,16,17,18,37,38,39,40,41,42,43,44,45,46,47,48,49,50,51,52,53,54,55,56,57,58,59,60,61,62,63,64,65,66,67,68,69,70,71,72,73,74,75,76,77] (.bk (.sq .z (.sq .z (.sq .z (.sq (.sq .z (.cd (.sq .z .z) .z)) (.sq (.sq .z (.cd (.sq .z .z) .z)) (.sq .z (.sq .z .z))))))))))))))))))) [t0,t1] func48 (by kernel_rfl) (by kernel_rfl) h
theorem cx:Enters prog 48:=enters_of func48 (by kernel_rfl) rfl
def eC(P:Program)(a b:Value)(w:World)(R:Ending->World->Prop):Prop:=
 Bt P .len #[26] 3 #[a] w fun c w=>
 Bt P .len #[26] 3 #[b] w fun d w=>
 Bn P .neq 3 false c d w fun e w=>
 If e
 (R (.returned (.bool false)) w)
 (Bt P .len #[26] 3 #[a] w fun f w=>
 jt (.int .i64 0) w (fun g w i=>
 Bn P .lss 3 false g f w fun j w=>
 If j
 (tM P 26 a g w.drew fun k=>
 dL P 30 k w.drew fun l=>
 tM P 26 b g w.drew fun m=>
 dL P 30 m w.drew fun n=>
 Dv P false (bn .neq 30 false l n) w.drew fun o=>
 If o
 (R (.returned (.bool false)) w.drew)
 (Bn P .add 3 true g (.int .i64 1) w.drew fun p w=>
 i p w))
 (R (.returned (.bool true)) w)))
theorem gC(h:eC prog t0 t1 w R):Calls prog 50 #[t0,t1] w R:=
 dW (.sq .z (.sq (.sq .z (.cd (.sq .z .z) .z)) (.sq (.sq .z (.bk (.lp [13] [4,5,14,15,16,17,18,19,20,21,22,23,24,25] (.sq .z (.sq (.cd .z .z) (.sq (.bk (.sq .z (.sq (.dr (.pur true 0 (.pur true 1 (.pur true 2 (.pur false 3 (.pur true 4 (.pur true 5 (.pur true 6 (.pur false 7 (.pur false 8 .done)))))))))) (.cd (.sq .z .z) .z)))) .z)))))) (.sq .z .z)))) [t0,t1] func50 (by kernel_rfl) (by kernel_rfl) h
theorem gD:Enters prog 50:=enters_of func50 (by kernel_rfl) rfl
def nD(P:Program)(a:Value)(w:World)(R:Ending->World->Prop):Prop:=
 Bt P .len #[31] 3 #[a] w fun b w=>
 jt (.int .i64 0) w (fun c w d=>
 Bn P .lss 3 false c b w fun e w=>
 If e
 (Ia P 31 a c w fun f w=>
 Ld P 65 f w fun g w=>
 Al P 65 w fun i w=>
 cL P 65 i g w fun w=>
 dL P 65 i w.drew fun j=>
 Cl P 92 #[j] w.drew (Pk R) fun l w=>
 Dv P true (Op.unary .not l) w fun m=>
 dx m false (fun k=>k c) fun n=>
 dx m false (fun k=>Dv P true (bn .gtr 3 true n (.int .i64 0)) w k) fun o=>
 dx m false (fun k=>k o) fun p=>
 dx p true (fun k=>k a) fun q=>
 dx p true (fun k=>k c) fun r=>
 dx p true (fun k=>Dv P true (bn .sub 3 true r (.int .i64 1)) w k) fun s=>
 dx p true (fun k=>tM P 31 q s w k) fun u=>
 dx p true (fun k=>dL P 65 u w k) fun v=>
 dx p true (fun k=>dL P 65 i w k) fun x=>
 Gd p true (fun k=>Cl P 93 #[v,x] w (Pk R) k) w fun y w=>
 dx p true (fun k=>Dv P true (bn .geq 3 true y (.int .i64 0)) w k) fun z=>
 dx m false (fun k=>eH p z (.bool false) k) fun A=>
 eH m (.bool true) A fun B=>
 If B
 (R (.returned (.bool false)) w)
 (Bn P .add 3 true c (.int .i64 1) w fun C w=>
 d C w))
 (Bt P .len #[31] 3 #[a] w fun D w=>
 Bn P .leq 3 true D (.int .i64 400) w fun E w=>
 Gd E true (fun k=>k a w) w fun F w=>
 Gd E true (fun k=>Cl P 94 #[F,(.func (.func 93) #[] #[])] w (Pk R) k) w fun G w=>
 cH E G (.bool false) w fun H w=>
 R (.returned H) w))
theorem uQ(h:nD prog t0 w R):Calls prog 58 #[t0] w R:=
 dW (.sq .z (.sq (.sq .z (.bk (.lp [7] [2,3,4,8,9,10,11,12,13,14,15,16,17,18,19,20,21,22,23,24,25,26,27,28,29] (.sq .z (.sq (.cd .z .z) (.sq (.bk (.sq .z (.sq (.dr (.pur false 0 (.eff 1 [] (.pur true 2 (.pur true 3 (.pur true 4 (.pur true 5 (.pur true 6 (.pur true 7 (.pur true 8 (.pur true 9 (.pur true 10 (.pur false 11 (.pur false 12 (.eff 13 [] (.pur true 14 (.pur true 15 (.pur true 16 .done)))))))))))))))))) (.cd (.sq .z .z) .z)))) .z)))))) (.sq .z .z))) [t0] func58 (by kernel_rfl) (by kernel_rfl) h
theorem gF:Enters prog 58:=enters_of func58 (by kernel_rfl) rfl
def qM(P:Program)(a b:Value)(w:World)(R:Ending->World->Prop):Prop:=
 Bx P 25 a w fun c w=>
 Al P 25 w fun d w=>
 Ld P 25 c w fun e w=>
 Cl P 97 #[e,b,(.bool false)] w (Pk R) fun f w=>
 Ex f 0 w fun g w=>
 Ex f 1 w fun i w=>
 cL P 25 d g w fun w=>
 Rc P 25 d w fun j=>
 R (.returned (.tuple #[j,i])) w
theorem ye(h:qM prog t0 t1 w R):Calls prog 60 #[t0,t1] w R:=
 dW (.sq .z (.sq .z .z)) [t0,t1] func60 (by kernel_rfl) (by kernel_rfl) h
theorem yf:Enters prog 60:=enters_of func60 (by kernel_rfl) rfl
def ke(P:Program)(a:Value)(w:World)(R:Ending->World->Prop):Prop:=
 Bt P .len #[31] 3 #[a] w fun b w=>
 Bn P .gtr 3 true b (.int .i64 400) w fun c w=>
 If c
 (R (.returned (.bool false)) w)
 (jt (.int .i64 0) w (fun d w e=>
 Bt P .len #[31] 3 #[a] w fun f w=>
 Bn P .lss 3 false d f w fun g w=>
 If g
 (Ia P 31 a d w fun i w=>
 Ld P 65 i w fun j w=>
 Cl P 98 #[j] w (Pk R) fun l w=>
 Un P .not l w fun m w=>
 If m
 (R (.returned (.bool false)) w)
 (Dv P true (bn .gtr 3 true d (.int .i64 0)) w.drew fun n=>
 dx n true (fun k=>k a) fun o=>
 dx n true (fun k=>k d) fun p=>
 dx n true (fun k=>tM P 31 o p w.drew k) fun q=>
 dx n true (fun k=>gu P 65 q 0 w.drew k) fun r=>
 dx n true (fun k=>dL P 3 r w.drew k) fun s=>
 dx n true (fun k=>k a) fun u=>
 dx n true (fun k=>k d) fun v=>
 dx n true (fun k=>Dv P true (bn .sub 3 true v (.int .i64 1)) w.drew k) fun x=>
 dx n true (fun k=>tM P 31 u x w.drew k) fun y=>
 dx n true (fun k=>gu P 65 y 0 w.drew k) fun z=>
 dx n true (fun k=>dL P 3 z w.drew k) fun A=>
 dx n true (fun k=>Dv P true (bn .lss 3 false s A) w.drew k) fun B=>
 dx n true (fun k=>k B) fun C=>
 dx C false (fun k=>k a) fun D=>
 dx C false (fun k=>k d) fun E=>
 dx C false (fun k=>tM P 31 D E w.drew k) fun F=>
 dx C false (fun k=>gu P 65 F 0 w.drew k) fun G=>
 dx C false (fun k=>dL P 3 G w.drew k) fun H=>
 dx C false (fun k=>k a) fun I=>
 dx C false (fun k=>k d) fun J=>
 dx C false (fun k=>Dv P true (bn .sub 3 true J (.int .i64 1)) w.drew k) fun L=>
 dx C false (fun k=>tM P 31 I L w.drew k) fun M=>
 dx C false (fun k=>gu P 65 M 0 w.drew k) fun N=>
 dx C false (fun k=>dL P 3 N w.drew k) fun O=>
 dx C false (fun k=>Dv P true (bn .eql 3 false H O) w.drew k) fun S=>
 dx C false (fun k=>k S) fun T=>
 dx T true (fun k=>k a) fun U=>
 dx T true (fun k=>k d) fun V=>
 dx T true (fun k=>tM P 31 U V w.drew k) fun W=>
 dx T true (fun k=>gu P 65 W 1 w.drew k) fun X=>
 dx T true (fun k=>dL P 3 X w.drew k) fun Y=>
 dx T true (fun k=>k a) fun Z=>
 dx T true (fun k=>k d) fun aa=>
 dx T true (fun k=>Dv P true (bn .sub 3 true aa (.int .i64 1)) w.drew k) fun ab=>
 dx T true (fun k=>tM P 31 Z ab w.drew k) fun ac=>
 dx T true (fun k=>gu P 65 ac 1 w.drew k) fun ad=>
 dx T true (fun k=>dL P 3 ad w.drew k) fun ae=>
 dx T true (fun k=>Dv P true (bn .leq 3 false Y ae) w.drew k) fun af=>
 dx C false (fun k=>eH T af (.bool false) k) fun ag=>
 dx n true (fun k=>eH C (.bool true) ag k) fun ai=>
 eH n ai (.bool false) fun aj=>
 If aj
 (R (.returned (.bool false)) w.drew)
 (Bn P .add 3 true d (.int .i64 1) w.drew fun ak w=>
 e ak w)))
 (R (.returned (.bool true)) w)))
theorem nF(h:ke prog t0 w R):Calls prog 62 #[t0] w R:=
 dW (.sq .z (.sq (.sq .z (.cd (.sq .z .z) .z)) (.sq (.sq .z (.bk (.lp [3] [2,7,8,9,10,11,12,13,14,15,16,17,18,19,20,21,22,23,24,25,26,27,28,29,30,31,32,33,34,35,36,37,38,39,40,41,42,43,44,45,46,47,48,49,50,51,52,53,54,55,56,57,58,59,60,61,62] (.sq (.sq .z (.cd .z .z)) (.sq (.bk (.sq (.sq .z (.cd (.sq .z .z) .z)) (.sq (.dr (.pur true 0 (.pur true 1 (.pur true 2 (.pur true 3 (.pur true 4 (.pur true 5 (.pur true 6 (.pur false 7 (.pur true 8 (.pur true 9 (.pur true 10 (.pur true 11 (.pur true 12 (.pur false 13 (.pur true 14 (.pur true 15 (.pur true 16 (.pur true 17 (.pur true 18 (.pur true 19 (.pur false 20 (.pur true 21 (.pur true 22 (.pur true 23 (.pur true 24 (.pur true 25 (.pur false 26 (.pur true 27 (.pur true 28 (.pur true 29 (.pur true 30 (.pur true 31 (.pur true 32 (.pur false 33 (.pur true 34 (.pur true 35 (.pur true 36 (.pur true 37 (.pur true 38 (.pur false 39 (.pur true 40 (.pur true 41 (.pur true 42 (.pur true 43 .done))))))))))))))))))))))))))))))))))))))))))))) (.cd (.sq .z .z) .z)))) .z))))) (.sq .z .z)))) [t0] func62 (by kernel_rfl) (by kernel_rfl) h
theorem gG:Enters prog 62:=enters_of func62 (by kernel_rfl) rfl
def tP(P:Program)(a b:Value)(w:World)(R:Ending->World->Prop):Prop:=
 Al P 25 w fun c w=>
 Cl P 101 #[a] w (Pk R) fun d w=>
 Cl P 101 #[b] w (Pk R) fun e w=>
 Cl P 100 #[d,e] w (Pk R) fun f w=>
 Ex f 0 w fun g w=>
 Ex f 1 w fun i w=>
 cL P 25 c g w fun w=>
 Rc P 25 c w fun j=>
 R (.returned (.tuple #[j,i])) w
theorem AY(h:tP prog t0 t1 w R):Calls prog 66 #[t0,t1] w R:=
 dW (.sq .z (.sq .z .z)) [t0,t1] func66 (by kernel_rfl) (by kernel_rfl) h
theorem AZ:Enters prog 66:=enters_of func66 (by kernel_rfl) rfl
def sC(P:Program)(a b c:Value)(w:World)(R:Ending->World->Prop):Prop:=
 Bx P 25 b w fun d w=>
 Bx P 25 c w fun e w=>
 Al P 25 w fun f w=>
 Bd P 113 [] w fun g w=>
 Bx P 113 g w fun i w=>
 Ld P 25 d w fun j w=>
 Ld P 25 e w fun k w=>
 Bs P 147 2 [(0,j),(1,k)] w fun l w=>
 Cl P 69 #[i,l] w (Pk R) fun m w=>
 gu P 25 d 0 w.drew fun n=>
 dL P 9 n w.drew fun o=>
 gu P 25 e 1 w.drew fun p=>
 dL P 9 p w.drew fun q=>
 gu P 25 e 0 w.drew fun r=>
 dL P 9 r w.drew fun s=>
 gu P 25 d 1 w.drew fun u=>
 dL P 9 u w.drew fun v=>
 Cl P 70 #[i,o,q] w.drew (Pk R) fun x w=>
 cU P 9 r s w <|
 cU P 9 u v w <|
 Cl P 70 #[i,s,v] w (Pk R) fun y w=>
 Cl P 102 #[i,a,x,y] w (Pk R) fun z w=>
 Fa P 25 d 1 w fun A w=>
 Ld P 9 A w fun B w=>
 Fa P 25 e 1 w fun C w=>
 Ld P 9 C w fun D w=>
 Cl P 70 #[i,B,D] w (Pk R) fun E w=>
 Cl P 71 #[i,z,E] w (Pk R) fun F w=>
 Ex F 0 w fun G w=>
 Ex F 1 w fun H w=>
 cL P 25 f G w fun w=>
 Rc P 25 f w fun I=>
 R (.returned (.tuple #[I,H])) w
theorem z8(h:sC prog t0 t1 t2 w R):Calls prog 67 #[t0,t1,t2] w R:=
 dW (.sq .z (.sq .z (.sq .z (.sq (.dr (.pur true 0 (.pur true 1 (.pur true 2 (.pur true 3 (.pur false 4 (.pur true 5 (.pur false 6 (.pur true 8 (.pur true 9 (.pur false 10 (.pur true 11 (.pur false 12 (.eff 7 [10,12] (.eff 13 [] (.eff 14 [] (.pur true 15 .done))))))))))))))))) (.sq .z .z))))) [t0,t1,t2] func67 (by kernel_rfl) (by kernel_rfl) h
theorem sD:Enters prog 67:=enters_of func67 (by kernel_rfl) rfl
def oL(P:Program)(a b:Value)(w:World)(R:Ending->World->Prop):Prop:=
 Cl P 103 #[a,b] w (Pk R) fun c w=>
 Ex c 0 w fun d w=>
 Ex c 1 w fun e w=>
 Ex c 2 w fun f w=>
 Al P 141 w fun g w=>
 Al P 141 w fun i w=>
 cL P 141 g d w fun w=>
 cL P 141 i e w fun w=>
 Un P .not f w fun j w=>
 If j
 (R (.returned (.tuple #[(bh []),(.int .i64 30)])) w)
 (Fa P 141 i 0 w fun k w=>
 Ld P 4 k w fun l w=>
 Un P .not l w fun m w=>
 Fa P 141 i 0 w fun n w=>
 cL P 4 n m w fun w=>
 Ld P 141 g w fun o w=>
 Ld P 141 i w fun p w=>
 Cl P 104 #[o,p] w (Pk R) fun q w=>
 Cl P 105 #[q] w (Pk R) fun r w=>
 Ex r 0 w fun s w=>
 Ex r 1 w fun u w=>
 R (.returned (.tuple #[s,u])) w)
theorem tQ(h:oL prog t0 t1 w R):Calls prog 68 #[t0,t1] w R:=
 dW (.sq .z (.sq .z (.sq (.sq .z (.cd (.sq .z .z) .z)) (.sq .z (.sq .z .z))))) [t0,t1] func68 (by kernel_rfl) (by kernel_rfl) h
theorem oM:Enters prog 68:=enters_of func68 (by kernel_rfl) rfl
def kX(P:Program)(a b:Value)(w:World)(R:Ending->World->Prop):Prop:=
 Bt P .len #[147] 3 #[b] w fun c w=>
 jt (.int .i64 0) w (fun d w e=>
 Bn P .lss 3 false d c w fun f w=>
 If f
 (Ia P 147 b d w fun g w=>
 Ld P 25 g w fun i w=>
 Al P 25 w fun j w=>
 cL P 25 j i w fun w=>
 Nc a w fun l w=>
 Fa P 113 l 0 w fun m w=>
 Ld P 4 m w fun n w=>
 Gd n false (fun k=>Ld P 25 j w k) w fun o w=>
 Gd n false (fun k=>Cl P 72 #[o] w (Pk R) k) w fun p w=>
 Gd n false (fun k=>Un P .not p w k) w fun q w=>
 cH n (.bool true) q w fun r w=>
 Nc a w fun s w=>
 Fa P 113 s 0 w fun u w=>
 cL P 4 u r w fun w=>
 Bn P .add 3 true d (.int .i64 1) w fun v w=>
 e v w)
 (R (.returned (.tuple #[])) w))
theorem ri(h:kX prog t0 t1 w R):Calls prog 69 #[t0,t1] w R:=
 dW (.sq .z (.bk (.lp [8] [5,9,10,11,12,13,14,15,16,17,18,19,20,21,22,23,24] (.sq .z (.sq (.cd .z .z) (.sq (.bk (.sq .z .z)) .z)))))) [t0,t1] func69 (by kernel_rfl) (by kernel_rfl) h
theorem ei:Enters prog 69:=enters_of func69 (by kernel_rfl) rfl
def mF(P:Program)(a b c:Value)(w:World)(R:Ending->World->Prop):Prop:=
 Cl P 102 #[a,(.func (.func 106) #[] #[]),b,c] w (Pk R) fun d w=>
 R (.returned d) w
theorem tD(h:mF prog t0 t1 t2 w R):Calls prog 70 #[t0,t1,t2] w R:=
 dW (.sq .z (.sq .z .z)) [t0,t1,t2] func70 (by kernel_rfl) (by kernel_rfl) h
theorem eP:Enters prog 70:=enters_of func70 (by kernel_rfl) rfl
def fM(P:Program)(a b c:Value)(w:World)(R:Ending->World->Prop):Prop:=
 Al P 25 w fun d w=>
 Nc a w fun e w=>
 Fa P 113 e 0 w fun f w=>
 Ld P 4 f w fun g w=>
 Gd g false (fun k=>k c w) w fun i w=>
 Gd g false (fun k=>Bn P .eql 9 true i (bh [48]) w k) w fun j w=>
 cH g (.bool true) j w fun l w=>
 If l
 (Bd P 25 [] w fun m w=>
 cL P 25 d m w fun w=>
 Rc P 25 d w fun n=>
 R (.returned (.tuple #[n,(.int .i64 40)])) w)
 (vt (fun o=>
 Cl P 74 #[c,(bh [48])] w (Pk R) fun p w=>
 Bn P .lss 3 true p (.int .i64 0) w fun q w=>
 If q
 (Cl P 102 #[a,(.func (.func 68) #[] #[]),(bh [48]),b] w (Pk R) fun r w=>
 Cl P 102 #[a,(.func (.func 68) #[] #[]),(bh [48]),c] w (Pk R) fun s w=>
 o r s w)
 (o b c w))
 (fun u v w=>
 Cl P 102 #[a,(.func (.func 107) #[] #[]),u,v] w (Pk R) fun x w=>
 Cl P 108 #[a,u,x] w (Pk R) fun y w=>
 Cl P 108 #[a,v,x] w (Pk R) fun z w=>
 Bd P 25 [(0,y),(1,z)] w fun A w=>
 Al P 25 w fun B w=>
 cL P 25 B A w fun w=>
 Nc a w fun C w=>
 Fa P 113 C 0 w fun D w=>
 Ld P 4 D w fun E w=>
 If E
 (Bd P 25 [] w fun F w=>
 cL P 25 d F w fun w=>
 Rc P 25 d w fun n=>
 R (.returned (.tuple #[n,(.int .i64 40)])) w)
 (Ld P 25 B w fun G w=>
 cL P 25 d G w fun w=>
 Rc P 25 d w fun n=>
 R (.returned (.tuple #[n,(.int .i64 0)])) w)))
theorem ii(h:fM prog t0 t1 t2 w R):Calls prog 71 #[t0,t1,t2] w R:=
 dW (.sq .z (.sq (.sq .z (.cd (.sq .z .z) .z)) (.jn [1,2] [19,20,21,22,23,24,25,26,27] (.sq .z (.cd .z .z)) (.sq .z (.sq .z (.sq (.sq .z (.cd (.sq .z .z) .z)) (.sq .z .z))))))) [t0,t1,t2] func71 (by kernel_rfl) (by kernel_rfl) h
theorem dH:Enters prog 71:=enters_of func71 (by kernel_rfl) rfl
def ij(P:Program)(a:Value)(w:World)(R:Ending->World->Prop):Prop:=
 Bx P 25 a w fun b w=>
 Fa P 25 b 0 w fun c w=>
 Ld P 9 c w fun d w=>
 Cl P 109 #[d] w (Pk R) fun e w=>
 Un P .not e w fun f w=>
 Gd f false (fun k=>Fa P 25 b 1 w k) w fun g w=>
 Gd f false (fun k=>Ld P 9 g w k) w fun i w=>
 Gd f false (fun k=>Cl P 109 #[i] w (Pk R) k) w fun j w=>
 Gd f false (fun k=>Un P .not j w k) w fun l w=>
 cH f (.bool true) l w fun m w=>
 Gd m false (fun k=>Fa P 25 b 1 w k) w fun n w=>
 Gd m false (fun k=>Ld P 9 n w k) w fun o w=>
 Gd m false (fun k=>Cl P 74 #[o,(bh [48])] w (Pk R) k) w fun p w=>
 Gd m false (fun k=>Bn P .leq 3 true p (.int .i64 0) w k) w fun q w=>
 cH m (.bool true) q w fun r w=>
 If r
 (R (.returned (.bool false)) w)
 (Fa P 25 b 0 w fun s w=>
 Ld P 9 s w fun u w=>
 Fa P 25 b 1 w fun v w=>
 Ld P 9 v w fun x w=>
 Cl P 107 #[u,x] w (Pk R) fun y w=>
 Ex y 0 w fun z w=>
 Ex y 1 w fun A w=>
 Bn P .eql 46 true A (.int .i64 0) w fun B w=>
 Gd B true (fun k=>k z w) w fun C w=>
 Gd B true (fun k=>Bn P .eql 9 true C (bh [49]) w k) w fun D w=>
 cH B D (.bool false) w fun E w=>
 R (.returned E) w)
theorem jx(h:ij prog t0 w R):Calls prog 72 #[t0] w R:=
 dW (.sq .z (.sq (.sq .z (.cd (.sq .z .z) .z)) (.sq .z (.sq .z .z)))) [t0] func72 (by kernel_rfl) (by kernel_rfl) h
theorem dk:Enters prog 72:=enters_of func72 (by kernel_rfl) rfl
def lL(P:Program)(a b:Value)(w:World)(R:Ending->World->Prop):Prop:=
 Cl P 103 #[a,b] w (Pk R) fun c w=>
 Ex c 0 w fun d w=>
 Ex c 1 w fun e w=>
 Ex c 2 w fun f w=>
 Al P 141 w fun g w=>
 Al P 141 w fun i w=>
 cL P 141 g d w fun w=>
 cL P 141 i e w fun w=>
 Un P .not f w fun j w=>
 Gd j false (fun k=>Fa P 141 i 1 w k) w fun l w=>
 Gd j false (fun k=>Ld P 139 l w k) w fun m w=>
 Gd j false (fun k=>Bt P .len #[139] 3 #[m] w k) w fun n w=>
 Gd j false (fun k=>Bn P .eql 3 true n (.int .i64 0) w k) w fun o w=>
 cH j (.bool true) o w fun p w=>
 If p
 (R (.returned (.tuple #[(bh []),(bh []),(.int .i64 30)])) w)
 (Fa P 141 g 1 w fun q w=>
 Ld P 139 q w fun r w=>
 Fa P 141 i 1 w fun s w=>
 Ld P 139 s w fun u w=>
 Cl P 110 #[r,u] w (Pk R) fun v w=>
 Ex v 0 w fun x w=>
 Ex v 1 w fun y w=>
 vt (fun z=>
 Fa P 141 g 0 w fun A w=>
 Ld P 4 A w fun B w=>
 Gd B true (fun k=>k y w) w fun C w=>
 Gd B true (fun k=>Bt P .len #[139] 3 #[C] w k) w fun D w=>
 Gd B true (fun k=>Bn P .gtr 3 true D (.int .i64 0) w k) w fun E w=>
 cH B E (.bool false) w fun F w=>
 If F
 (gu P 141 i 1 w.drew fun G=>
 dL P 139 G w.drew fun H=>
 Cl P 112 #[] w.drew (Pk R) fun I w=>
 cU P 139 G H w <|
 Cl P 111 #[x,I] w (Pk R) fun J w=>
 cU P 139 G H w <|
 Cl P 113 #[H,y] w (Pk R) fun L w=>
 z J L w)
 (z x y w))
 (fun M N w=>
 Fa P 141 g 0 w fun O w=>
 Ld P 4 O w fun S w=>
 Fa P 141 i 0 w fun T w=>
 Ld P 4 T w fun U w=>
 Bn P .neq 4 false S U w fun V w=>
 Bd P 141 [(0,V),(1,M)] w fun W w=>
 Cl P 105 #[W] w (Pk R) fun X w=>
 Ex X 0 w fun Y w=>
 Ex X 1 w fun Z w=>
 Bn P .neq 46 true Z (.int .i64 0) w fun aa w=>
 If aa
 (R (.returned (.tuple #[(bh []),(bh []),Z])) w)
 (Bd P 141 [(1,N)] w fun ab w=>
 Cl P 105 #[ab] w (Pk R) fun ac w=>
 Ex ac 0 w fun ad w=>
 Ex ac 1 w fun ae w=>
 R (.returned (.tuple #[Y,ad,(.int .i64 0)])) w)))
theorem oN(h:lL prog t0 t1 w R):Calls prog 73 #[t0,t1] w R:=
 dW (.sq .z (.sq .z (.sq (.sq .z (.cd (.sq .z .z) .z)) (.sq .z (.jn [10,11] [39,40,41,42,43,44,45,46,47,48,49,50,51,52] (.sq .z (.cd (.dr (.pur true 0 (.pur true 3 (.pur false 4 (.pur true 5 (.eff 1 [4] (.eff 2 [4] (.eff 6 [] (.pur true 7 (.pur true 8 .done)))))))))) .z)) (.sq .z (.sq (.sq .z (.cd (.sq .z .z) .z)) (.sq .z (.sq .z .z))))))))) [t0,t1] func73 (by kernel_rfl) (by kernel_rfl) h
theorem lM:Enters prog 73:=enters_of func73 (by kernel_rfl) rfl
def oh(P:Program)(a b:Value)(w:World)(R:Ending->World->Prop):Prop:=
 Cl P 103 #[a,b] w (Pk R) fun c w=>
 Ex c 0 w fun d w=>
 Ex c 1 w fun e w=>
 Ex c 2 w fun f w=>
 Al P 141 w fun g w=>
 Al P 141 w fun i w=>
 cL P 141 g d w fun w=>
 cL P 141 i e w fun w=>
 Un P .not f w fun j w=>
 If j
 (R (.returned (.int .i64 0)) w)
 (Fa P 141 g 0 w fun l w=>
 Ld P 4 l w fun m w=>
 Gd m true (fun k=>Fa P 141 i 0 w k) w fun n w=>
 Gd m true (fun k=>Ld P 4 n w k) w fun o w=>
 cH m o (.bool false) w fun p w=>
 If p
 (Fa P 141 i 1 w fun q w=>
 Ld P 139 q w fun r w=>
 Fa P 141 g 1 w fun s w=>
 Ld P 139 s w fun u w=>
 Cl P 114 #[r,u] w (Pk R) fun v w=>
 R (.returned v) w)
 (Fa P 141 g 0 w fun x w=>
 Ld P 4 x w fun y w=>
 If y
 (R (.returned (.int .i64 (-1))) w)
 (Fa P 141 i 0 w fun z w=>
 Ld P 4 z w fun A w=>
 If A
 (R (.returned (.int .i64 1)) w)
 (Fa P 141 g 1 w fun B w=>
 Ld P 139 B w fun C w=>
 Fa P 141 i 1 w fun D w=>
 Ld P 139 D w fun E w=>
 Cl P 114 #[C,E] w (Pk R) fun F w=>
 R (.returned F) w))))
theorem vu(h:oh prog t0 t1 w R):Calls prog 74 #[t0,t1] w R:=
 dW (.sq .z (.sq .z (.sq (.bk (.sq .z (.cd (.sq .z .z) (.sq .z (.cd (.sq .z .z) (.sq .z (.cd (.sq .z .z) (.sq .z (.cd (.sq .z .z) .z))))))))) (.sq .z .z)))) [t0,t1] func74 (by kernel_rfl) (by kernel_rfl) h
theorem fP:Enters prog 74:=enters_of func74 (by kernel_rfl) rfl
def oO(P:Program)(a b:Value)(w:World)(R:Ending->World->Prop):Prop:=
 Cl P 103 #[a,b] w (Pk R) fun c w=>
 Ex c 0 w fun d w=>
 Ex c 1 w fun e w=>
 Ex c 2 w fun f w=>
 Al P 141 w fun g w=>
 Al P 141 w fun i w=>
 cL P 141 g d w fun w=>
 cL P 141 i e w fun w=>
 Un P .not f w fun j w=>
 If j
 (R (.returned (.tuple #[(bh []),(.int .i64 30)])) w)
 (Ld P 141 g w fun k w=>
 Ld P 141 i w fun l w=>
 Cl P 104 #[k,l] w (Pk R) fun m w=>
 Cl P 105 #[m] w (Pk R) fun n w=>
 Ex n 0 w fun o w=>
 Ex n 1 w fun p w=>
 R (.returned (.tuple #[o,p])) w)
theorem tT(h:oO prog t0 t1 w R):Calls prog 75 #[t0,t1] w R:=
 dW (.sq .z (.sq .z (.sq (.sq .z (.cd (.sq .z .z) .z)) (.sq .z .z)))) [t0,t1] func75 (by kernel_rfl) (by kernel_rfl) h
theorem tV:Enters prog 75:=enters_of func75 (by kernel_rfl) rfl
theorem dX:Enters prog 76:=enters_of func76 (by kernel_rfl) rfl
def fH(P:Program)(a b:Value)(w:World)(R:Ending->World->Prop):Prop:=
 Bt P .len #[26] 3 #[a] w fun c w=>
 jt (.int .i64 0) w (fun d w e=>
 Bn P .lss 3 false d c w fun f w=>
 If f
 (Ia P 26 a d w fun g w=>
 Ld P 30 g w fun i w=>
 Cw P b #[i] w (Pk R) fun j w=>
 If j
 (R (.returned d) w)
 (Bn P .add 3 true d (.int .i64 1) w fun k w=>
 e k w))
 (R (.returned (.int .i64 (-1))) w))
theorem ji(h:fH prog t0 t1 w R):Calls prog 77 #[t0,t1] w R:=
 dW (.sq .z (.sq (.sq .z (.bk (.lp [8] [4,5,9,10,11,12,13,14,15,16,17,18] (.sq .z (.sq (.cd .z .z) (.sq (.bk (.sq .z (.sq .z (.cd (.sq .z .z) .z)))) .z)))))) (.sq .z .z))) [t0,t1] func77 (by kernel_rfl) (by kernel_rfl) h
theorem jj:Enters prog 77:=enters_of func77 (by kernel_rfl) rfl
theorem gH:Enters prog 78:=enters_of func78 (by kernel_rfl) rfl
def jK(P:Program)(a:Value)(w:World)(R:Ending->World->Prop):Prop:=
 Bx P 25 a w fun b w=>
 Fa P 25 b 0 w fun c w=>
 Ld P 9 c w fun d w=>
 Cl P 118 #[d] w (Pk R) fun e w=>
 Fa P 25 b 1 w fun f w=>
 Ld P 9 f w fun g w=>
 Cl P 118 #[g] w (Pk R) fun i w=>
 Un P .not e w fun j w=>
 Gd j false (fun k=>k i w) w fun l w=>
 Gd j false (fun k=>Un P .not l w k) w fun m w=>
 cH j (.bool true) m w fun n w=>
 Gd n false (fun k=>Fa P 25 b 1 w k) w fun o w=>
 Gd n false (fun k=>Ld P 9 o w k) w fun p w=>
 Gd n false (fun k=>Cl P 85 #[p,(bh [48])] w (Pk R) k) w fun q w=>
 Gd n false (fun k=>Bn P .leq 3 true q (.int .i64 0) w k) w fun r w=>
 cH n (.bool true) r w fun s w=>
 If s
 (R (.returned (.bool false)) w)
 (Fa P 25 b 0 w fun u w=>
 Ld P 9 u w fun v w=>
 Fa P 25 b 1 w fun x w=>
 Ld P 9 x w fun y w=>
 Cl P 119 #[v,y] w (Pk R) fun z w=>
 Ex z 0 w fun A w=>
 Ex z 1 w fun B w=>
 Bn P .eql 46 true B (.int .i64 0) w fun C w=>
 Gd C true (fun k=>k A w) w fun D w=>
 Gd C true (fun k=>Bn P .eql 9 true D (bh [49]) w k) w fun E w=>
 cH C E (.bool false) w fun F w=>
 R (.returned F) w)
theorem lN(h:jK prog t0 w R):Calls prog 79 #[t0] w R:=
 dW (.sq .z (.sq .z (.sq .z (.sq (.sq .z (.cd (.sq .z .z) .z)) (.sq .z (.sq .z .z)))))) [t0] func79 (by kernel_rfl) (by kernel_rfl) h
theorem cN:Enters prog 79:=enters_of func79 (by kernel_rfl) rfl
def iG(P:Program)(a:Value)(w:World)(R:Ending->World->Prop):Prop:=
 Cl P 118 #[a] w (Pk R) fun b w=>
 Un P .not b w fun c w=>
 Gd c false (fun k=>k a w) w fun d w=>
 Gd c false (fun k=>Cl P 85 #[d,(bh [45,57,50,50,51,51,55,50,48,51,54,56,53,52,55,55,53,56,48,56])] w (Pk R) k) w fun e w=>
 Gd c false (fun k=>Bn P .lss 3 true e (.int .i64 0) w k) w fun f w=>
 cH c (.bool true) f w fun g w=>
 Gd g false (fun k=>k a w) w fun i w=>
 Gd g false (fun k=>Cl P 85 #[i,(bh [57,50,50,51,51,55,50,48,51,54,56,53,52,55,55,53,56,48,55])] w (Pk R) k) w fun j w=>
 Gd g false (fun k=>Bn P .gtr 3 true j (.int .i64 0) w k) w fun l w=>
 cH g (.bool true) l w fun m w=>
 If m
 (R (.returned (.tuple #[(.int .i64 0),(.int .i64 30)])) w)
 (uN (.int .i64 0) (.int .i64 0) w (fun n o w p=>
 Bt P .len #[9] 3 #[a] w fun q w=>
 Bn P .lss 3 false o q w fun r w=>
 If r
 (Ix P 9 a o w fun s w=>
 Bn P .eql 5 true s (.int .u8 45) w fun u w=>
 If u
 (Bn P .add 3 true o (.int .i64 1) w fun v w=>
 p n v w)
 (Ix P 9 a o w fun x w=>
 Bn P .sub 5 true x (.int .u8 48) w fun y w=>
 Cv P 5 3 y w fun z w=>
 Ix P 9 a (.int .i64 0) w fun A w=>
 Bn P .eql 5 true A (.int .u8 45) w fun B w=>
 If B
 (Un P .neg z w fun C w=>
 Bn P .mul 3 true (.int .i64 10) n w fun D w=>
 Bn P .add 3 false D C w fun E w=>
 Bn P .add 3 true o (.int .i64 1) w fun F w=>
 p E F w)
 (Bn P .mul 3 true (.int .i64 10) n w fun G w=>
 Bn P .add 3 false G z w fun H w=>
 Bn P .add 3 true o (.int .i64 1) w fun I w=>
 p H I w)))
 (R (.returned (.tuple #[n,(.int .i64 0)])) w)))
theorem jL(h:iG prog t0 w R):Calls prog 80 #[t0] w R:=
 dW (.sq .z (.sq (.sq .z (.cd (.sq .z .z) .z)) (.sq .z (.sq (.sq .z (.bk (.lp [4,5] [6,20,21,22,23,24,25,26,27,28,29,30,31,32,33,34,35,36,37,38,39,40,41,42,43] (.sq (.sq .z (.cd .z .z)) (.sq (.bk (.sq (.sq .z (.cd .z .z)) (.sq .z (.sq (.sq .z (.cd .z .z)) .z)))) .z))))) (.sq .z .z))))) [t0] func80 (by kernel_rfl) (by kernel_rfl) h
theorem gn:Enters prog 80:=enters_of func80 (by kernel_rfl) rfl
def lY(P:Program)(a b:Value)(w:World)(R:Ending->World->Prop):Prop:=
 Cl P 118 #[a] w (Pk R) fun c w=>
 Un P .not c w fun d w=>
 Gd d false (fun k=>k b w) w fun e w=>
 Gd d false (fun k=>Cl P 118 #[e] w (Pk R) k) w fun f w=>
 Gd d false (fun k=>Un P .not f w k) w fun g w=>
 cH d (.bool true) g w fun i w=>
 Gd i false (fun k=>k b w) w fun j w=>
 Gd i false (fun k=>Bn P .eql 9 true j (bh [48]) w k) w fun l w=>
 cH i (.bool true) l w fun m w=>
 If m
 (R (.returned (.tuple #[(bh []),(bh []),(.int .i64 30)])) w)
 (Cl P 121 #[a] w (Pk R) fun n w=>
 Ex n 0 w fun o w=>
 Ex n 1 w fun p w=>
 Cl P 121 #[b] w (Pk R) fun q w=>
 Ex q 0 w fun r w=>
 Ex q 1 w fun s w=>
 Cl P 122 #[p,s] w (Pk R) fun u w=>
 Ex u 0 w fun v w=>
 Ex u 1 w fun x w=>
 vt (fun y=>
 Gd o true (fun k=>k x w) w fun z w=>
 Gd o true (fun k=>Bt P .len #[33] 3 #[z] w k) w fun A w=>
 Gd o true (fun k=>Bn P .gtr 3 true A (.int .i64 0) w k) w fun B w=>
 cH o B (.bool false) w fun C w=>
 If C
 (Bs P 33 1 [(0,(.int .i64 1))] w fun D w=>
 Cl P 123 #[v,D] w (Pk R) fun E w=>
 Cl P 124 #[s,x] w (Pk R) fun F w=>
 y E F w)
 (y v x w))
 (fun G H w=>
 Bn P .neq 4 false o r w fun I w=>
 Cl P 125 #[I,G] w (Pk R) fun J w=>
 Ex J 0 w fun L w=>
 Ex J 1 w fun M w=>
 Cl P 126 #[(.bool false),H] w (Pk R) fun N w=>
 Ex N 0 w fun O w=>
 Ex N 1 w fun S w=>
 Bn P .neq 46 true M (.int .i64 0) w fun T w=>
 If T
 (R (.returned (.tuple #[(bh []),(bh []),M])) w)
 (R (.returned (.tuple #[L,O,(.int .i64 0)])) w)))
theorem oi(h:lY prog t0 t1 w R):Calls prog 84 #[t0,t1] w R:=
 dW (.sq .z (.sq (.sq .z (.cd (.sq .z .z) .z)) (.sq .z (.sq .z (.sq .z (.jn [11,12] [45,46,47,48,49,50,51,52,53,54,55,56] (.sq .z (.cd (.sq .z .z) .z)) (.sq .z (.sq .z (.sq (.sq .z (.cd (.sq .z .z) .z)) (.sq .z .z)))))))))) [t0,t1] func84 (by kernel_rfl) (by kernel_rfl) h
theorem lZ:Enters prog 84:=enters_of func84 (by kernel_rfl) rfl
def iy(P:Program)(a b:Value)(w:World)(R:Ending->World->Prop):Prop:=
 Cl P 118 #[a] w (Pk R) fun c w=>
 Un P .not c w fun d w=>
 Gd d false (fun k=>k b w) w fun e w=>
 Gd d false (fun k=>Cl P 118 #[e] w (Pk R) k) w fun f w=>
 Gd d false (fun k=>Un P .not f w k) w fun g w=>
 cH d (.bool true) g w fun i w=>
 If i
 (R (.returned (.int .i64 0)) w)
 (Cl P 121 #[a] w (Pk R) fun j w=>
 Ex j 0 w fun l w=>
 Ex j 1 w fun m w=>
 Cl P 121 #[b] w (Pk R) fun n w=>
 Ex n 0 w fun o w=>
 Ex n 1 w fun p w=>
 Bn P .neq 4 false l o w fun q w=>
 If q
 (If l
 (R (.returned (.int .i64 (-1))) w)
 (R (.returned (.int .i64 1)) w))
 (If l
 (Cl P 127 #[p,m] w (Pk R) fun r w=>
 R (.returned r) w)
 (Cl P 127 #[m,p] w (Pk R) fun s w=>
 R (.returned s) w)))
theorem jY(h:iy prog t0 t1 w R):Calls prog 85 #[t0,t1] w R:=
 dW (.sq .z (.sq (.sq .z (.cd (.sq .z .z) .z)) (.sq .z (.sq .z (.sq (.sq .z (.cd (.sq (.sq .z (.cd (.sq .z .z) .z)) (.sq .z .z)) .z)) (.sq (.sq .z (.cd (.sq .z .z) .z)) (.sq .z .z))))))) [t0,t1] func85 (by kernel_rfl) (by kernel_rfl) h
theorem dp:Enters prog 85:=enters_of func85 (by kernel_rfl) rfl
def nG(P:Program)(a:Value)(w:World)(R:Ending->World->Prop):Prop:=
 Bn P .eql 9 true a (bh [48]) w fun b w=>
 If b
 (R (.returned a) w)
 (R (.returned (bh [49])) w)
theorem sE(h:nG prog t0 w R):Calls prog 86 #[t0] w R:=
 dW (.sq .z (.sq (.sq .z (.cd (.sq .z .z) .z)) (.sq .z .z))) [t0] func86 (by kernel_rfl) (by kernel_rfl) h
theorem sG:Enters prog 86:=enters_of func86 (by kernel_rfl) rfl
def l4(P:Program)(a b:Value)(w:World)(R:Ending->World->Prop):Prop:=
 Bx P 25 a w fun c w=>
 Bx P 25 b w fun d w=>
 Al P 25 w fun e w=>
 Ld P 25 c w fun f w=>
 Ld P 25 d w fun g w=>
 Cl P 129 #[f,g] w (Pk R) fun i w=>
 Ex i 0 w fun j w=>
 Ex i 1 w fun k w=>
 Ex i 2 w fun l w=>
 Ex i 3 w fun m w=>
 Un P .not m w fun n w=>
 If n
 (Bd P 25 [] w fun o w=>
 cL P 25 e o w fun w=>
 Rc P 25 e w fun p=>
 R (.returned (.tuple #[p,(.int .i64 40)])) w)
 (Cl P 130 #[j,k] w (Pk R) fun q w=>
 Ex q 0 w fun r w=>
 Ex q 1 w fun s w=>
 Bn P .neq 46 true s (.int .i64 0) w fun u w=>
 If u
 (Bd P 25 [] w fun v w=>
 cL P 25 e v w fun w=>
 Rc P 25 e w fun p=>
 R (.returned (.tuple #[p,(.int .i64 40)])) w)
 (Cl P 131 #[r,l] w (Pk R) fun x w=>
 Ex x 0 w fun y w=>
 Ex x 1 w fun z w=>
 cL P 25 e y w fun w=>
 Rc P 25 e w fun p=>
 R (.returned (.tuple #[p,z])) w))
theorem oj(h:l4 prog t0 t1 w R):Calls prog 88 #[t0,t1] w R:=
 dW (.sq .z (.sq .z (.sq (.sq .z (.cd (.sq .z .z) .z)) (.sq .z (.sq (.sq .z (.cd (.sq .z .z) .z)) (.sq .z .z)))))) [t0,t1] func88 (by kernel_rfl) (by kernel_rfl) h
theorem Em:Enters prog 88:=enters_of func88 (by kernel_rfl) rfl
def Aa(P:Program)(a b:Value)(w:World)(R:Ending->World->Prop):Prop:=
 Al P 25 w fun c w=>
 Cl P 132 #[a] w (Pk R) fun d w=>
 Cl P 132 #[b] w (Pk R) fun e w=>
 Cl P 131 #[d,e] w (Pk R) fun f w=>
 Ex f 0 w fun g w=>
 Ex f 1 w fun i w=>
 cL P 25 c g w fun w=>
 Rc P 25 c w fun j=>
 R (.returned (.tuple #[j,i])) w
theorem F4(h:Aa prog t0 t1 w R):Calls prog 89 #[t0,t1] w R:=
 dW (.sq .z (.sq .z .z)) [t0,t1] func89 (by kernel_rfl) (by kernel_rfl) h
theorem F5:Enters prog 89:=enters_of func89 (by kernel_rfl) rfl
def eF(P:Program)(a:Value)(w:World)(R:Ending->World->Prop):Prop:=
 Bn P .eql 26 true a (.slice none 0 0) w fun b w=>
 If b
 (R (.returned (.slice none 0 0)) w)
 (Bs P 26 0 [] w fun c w=>
 Bt P .append #[26,26] 26 #[c,a] w fun d w=>
 R (.returned d) w)
theorem gJ(h:eF prog t0 w R):Calls prog 90 #[t0] w R:=
 dW (.sq .z (.sq (.sq .z (.cd (.sq .z .z) .z)) (.sq .z .z))) [t0] func90 (by kernel_rfl) (by kernel_rfl) h
theorem kg:Enters prog 90:=enters_of func90 (by kernel_rfl) rfl
def dq(P:Program)(a:Value)(w:World)(R:Ending->World->Prop):Prop:=
 Bx P 65 a w fun b w=>
 Fa P 65 b 0 w fun c w=>
 Ld P 3 c w fun d w=>
 Cl P 133 #[d,(.int .i64 0),(.int .i64 999)] w (Pk R) fun e w=>
 Gd e true (fun k=>Fa P 65 b 1 w k) w fun f w=>
 Gd e true (fun k=>Ld P 3 f w k) w fun g w=>
 Gd e true (fun k=>Cl P 133 #[g,(.int .i64 0),(.int .i64 9)] w (Pk R) k) w fun i w=>
 cH e i (.bool false) w fun j w=>
 Gd j true (fun k=>Fa P 65 b 2 w k) w fun l w=>
 Gd j true (fun k=>Ld P 3 l w k) w fun m w=>
 Gd j true (fun k=>Cl P 133 #[m,(.int .i64 0),(.int .i64 7)] w (Pk R) k) w fun n w=>
 cH j n (.bool false) w fun o w=>
 Gd o true (fun k=>Fa P 65 b 3 w k) w fun p w=>
 Gd o true (fun k=>Ld P 3 p w k) w fun q w=>
 Gd o true (fun k=>Cl P 133 #[q,(.int .i64 0),(.int .i64 9)] w (Pk R) k) w fun r w=>
 cH o r (.bool false) w fun s w=>
 Gd s true (fun k=>Fa P 65 b 4 w k) w fun u w=>
 Gd s true (fun k=>Ld P 3 u w k) w fun v w=>
 Gd s true (fun k=>Cl P 133 #[v,(.int .i64 0),(.int .i64 11)] w (Pk R) k) w fun x w=>
 cH s x (.bool false) w fun y w=>
 Gd y true (fun k=>Fa P 65 b 5 w k) w fun z w=>
 Gd y true (fun k=>Ld P 3 z w k) w fun A w=>
 Gd y true (fun k=>Cl P 133 #[A,(.int .i64 (-1)),(.int .i64 19)] w (Pk R) k) w fun B w=>
 cH y B (.bool false) w fun C w=>
 Gd C true (fun k=>Fa P 65 b 6 w k) w fun D w=>
 Gd C true (fun k=>Ld P 3 D w k) w fun E w=>
 Gd C true (fun k=>Fa P 65 b 0 w k) w fun F w=>
 Gd C true (fun k=>Ld P 3 F w k) w fun G w=>
 Gd C true (fun k=>Bn P .quo 3 true G (.int .i64 10) w k) w fun H w=>
 Gd C true (fun k=>Bn P .eql 3 false E H w k) w fun I w=>
 cH C I (.bool false) w fun J w=>
 Gd J true (fun k=>Fa P 65 b 7 w k) w fun L w=>
 Gd J true (fun k=>Ld P 3 L w k) w fun M w=>
 Gd J true (fun k=>Fa P 65 b 8 w k) w fun N w=>
 Gd J true (fun k=>Ld P 3 N w k) w fun O w=>
 Gd J true (fun k=>Cl P 133 #[M,(.int .i64 0),O] w (Pk R) k) w fun S w=>
 cH J S (.bool false) w fun T w=>
 Gd T true (fun k=>Fa P 65 b 8 w k) w fun U w=>
 Gd T true (fun k=>Ld P 3 U w k) w fun V w=>
 Gd T true (fun k=>Bn P .leq 3 true V (.int .i64 4398046511104) w k) w fun W w=>
 cH T W (.bool false) w fun X w=>
 Gd X true (fun k=>Fa P 65 b 9 w k) w fun Y w=>
 Gd X true (fun k=>Ld P 3 Y w k) w fun Z w=>
 Gd X true (fun k=>Cl P 133 #[Z,(.int .i64 0),(.int .i64 24000)] w (Pk R) k) w fun aa w=>
 cH X aa (.bool false) w fun ab w=>
 R (.returned ab) w
theorem dB(h:dq prog t0 w R):Calls prog 92 #[t0] w R:=
 dW (.sq .z (.sq .z .z)) [t0] func92 (by kernel_rfl) (by kernel_rfl) h
theorem iO:Enters prog 92:=enters_of func92 (by kernel_rfl) rfl
def qN(P:Program)(a b:Value)(w:World)(R:Ending->World->Prop):Prop:=
 Bx P 65 a w fun c w=>
 Bx P 65 b w fun d w=>
 gu P 65 c 0 w.drew fun e=>
 dL P 3 e w.drew fun f=>
 gu P 65 d 0 w.drew fun g=>
 dL P 3 g w.drew fun i=>
 gu P 65 c 1 w.drew fun j=>
 dL P 3 j w.drew fun k=>
 gu P 65 d 1 w.drew fun l=>
 dL P 3 l w.drew fun m=>
 Cl P 135 #[f,i] w.drew (Pk R) fun n w=>
 cU P 3 j k w <|
 cU P 3 l m w <|
 Cl P 135 #[k,m] w (Pk R) fun o w=>
 Bs P 33 2 [(0,n),(1,o)] w fun p w=>
 Cl P 134 #[p] w (Pk R) fun q w=>
 R (.returned q) w
theorem yh(h:qN prog t0 t1 w R):Calls prog 93 #[t0,t1] w R:=
 dW (.sq .z (.sq (.dr (.pur true 0 (.pur false 1 (.pur true 2 (.pur false 3 (.pur true 5 (.pur false 6 (.pur true 7 (.pur false 8 (.eff 4 [6,8] (.eff 9 [] (.eff 10 [] (.eff 11 [] (.pur true 12 .done)))))))))))))) .z)) [t0,t1] func93 (by kernel_rfl) (by kernel_rfl) h
theorem mq:Enters prog 93:=enters_of func93 (by kernel_rfl) rfl
def fB(P:Program)(a b:Value)(w:World)(R:Ending->World->Prop):Prop:=
 Bt P .len #[31] 3 #[a] w fun c w=>
 Bn P .sub 3 true c (.int .i64 1) w fun d w=>
 jt d w (fun e w f=>
 Bn P .gtr 3 true e (.int .i64 0) w fun g w=>
 If g
 (tM P 31 a e w.drew fun i=>
 dL P 65 i w.drew fun j=>
 Dv P true (bn .sub 3 true e (.int .i64 1)) w.drew fun k=>
 tM P 31 a k w.drew fun l=>
 dL P 65 l w.drew fun m=>
 Cw P b #[j,m] w.drew (Pk R) fun n w=>
 Dv P true (bn .lss 3 true n (.int .i64 0)) w fun o=>
 If o
 (R (.returned (.bool false)) w)
 (Bn P .sub 3 true e (.int .i64 1) w fun p w=>
 f p w))
 (R (.returned (.bool true)) w))
theorem iV(h:fB prog t0 t1 w R):Calls prog 94 #[t0,t1] w R:=
 dW (.sq .z (.sq (.sq .z (.bk (.lp [5] [4,9,10,11,12,13,14,15,16,17,18,19,20,21,22,23,24] (.sq (.sq .z (.cd .z .z)) (.sq (.bk (.sq (.dr (.pur true 0 (.pur true 1 (.pur true 2 (.pur true 3 (.pur false 4 (.pur true 5 (.pur true 6 (.pur true 7 (.pur true 8 (.pur false 9 (.eff 10 [] (.pur true 11 .done))))))))))))) (.cd (.sq .z .z) .z))) .z))))) (.sq .z .z))) [t0,t1] func94 (by kernel_rfl) (by kernel_rfl) h
theorem iW:Enters prog 94:=enters_of func94 (by kernel_rfl) rfl
def lB(P:Program)(a b c:Value)(w:World)(R:Ending->World->Prop):Prop:=
 Bx P 25 a w fun d w=>
 Al P 25 w fun e w=>
 Bn P .lss 3 true b (.int .i64 0) w fun f w=>
 Gd f false (fun k=>k b w) w fun g w=>
 Gd f false (fun k=>Bn P .gtr 3 true g (.int .i64 30) w k) w fun i w=>
 cH f (.bool true) i w fun j w=>
 Bd P 113 [(0,j)] w fun l w=>
 Bx P 113 l w fun m w=>
 Ld P 25 d w fun n w=>
 Bs P 147 1 [(0,n)] w fun o w=>
 Cl P 69 #[m,o] w (Pk R) fun p w=>
 Nc m w fun q w=>
 Fa P 113 q 0 w fun r w=>
 Ld P 4 r w fun s w=>
 If s
 (Bd P 25 [] w fun u w=>
 cL P 25 e u w fun w=>
 Rc P 25 e w fun v=>
 R (.returned (.tuple #[v,(.int .i64 40)])) w)
 (Cl P 136 #[(bh [48]),b] w (Pk R) fun x w=>
 Bn P .add 9 true (bh [49]) x w fun y w=>
 Fa P 25 d 0 w fun z w=>
 Ld P 9 z w fun A w=>
 Cl P 70 #[m,A,y] w (Pk R) fun B w=>
 Nc m w fun C w=>
 Fa P 113 C 0 w fun D w=>
 Ld P 4 D w fun E w=>
 If E
 (Bd P 25 [] w fun F w=>
 cL P 25 e F w fun w=>
 Rc P 25 e w fun v=>
 R (.returned (.tuple #[v,(.int .i64 40)])) w)
 (Fa P 25 d 1 w fun G w=>
 Ld P 9 G w fun H w=>
 Cl P 73 #[B,H] w (Pk R) fun I w=>
 Ex I 0 w fun J w=>
 Ex I 1 w fun L w=>
 Ex I 2 w fun M w=>
 mE (fun N=>
 Bn P .neq 46 true M (.int .i64 0) w fun O w=>
 Nc m w fun S w=>
 Fa P 113 S 0 w fun T w=>
 cL P 4 T O w fun w=>
 Gd c true (fun k=>k L w) w fun U w=>
 Gd c true (fun k=>Bn P .neq 9 true U (bh [48]) w k) w fun V w=>
 cH c V (.bool false) w fun W w=>
 If W
 (Cl P 102 #[m,(.func (.func 75) #[] #[]),J,(bh [49])] w (Pk R) fun X w=>
 N X w)
 (N J w))
 (fun Y w=>
 Cl P 71 #[m,Y,y] w (Pk R) fun Z w=>
 Ex Z 0 w fun aa w=>
 Ex Z 1 w fun ab w=>
 cL P 25 e aa w fun w=>
 Rc P 25 e w fun v=>
 R (.returned (.tuple #[v,ab])) w)))
theorem pA(h:lB prog t0 t1 t2 w R):Calls prog 97 #[t0,t1,t2] w R:=
 dW (.sq .z (.sq .z (.sq .z (.sq (.sq .z (.cd (.sq .z .z) .z)) (.sq .z (.sq .z (.sq (.sq .z (.cd (.sq .z .z) .z)) (.sq .z (.jn [11] [52,53,54,55,56,57,58,59,60,61,62,63,64] (.sq .z (.sq .z (.cd .z .z))) (.sq .z .z)))))))))) [t0,t1,t2] func97 (by kernel_rfl) (by kernel_rfl) h
theorem wV:Enters prog 97:=enters_of func97 (by kernel_rfl) rfl
def dm(P:Program)(a:Value)(w:World)(R:Ending->World->Prop):Prop:=
 Bx P 65 a w fun b w=>
 Fa P 65 b 0 w fun c w=>
 Ld P 3 c w fun d w=>
 Cl P 137 #[d,(.int .i64 0),(.int .i64 999)] w (Pk R) fun e w=>
 Un P .not e w fun f w=>
 Gd f false (fun k=>Fa P 65 b 1 w k) w fun g w=>
 Gd f false (fun k=>Ld P 3 g w k) w fun i w=>
 Gd f false (fun k=>Cl P 137 #[i,(.int .i64 0),(.int .i64 9)] w (Pk R) k) w fun j w=>
 Gd f false (fun k=>Un P .not j w k) w fun l w=>
 cH f (.bool true) l w fun m w=>
 Gd m false (fun k=>Fa P 65 b 2 w k) w fun n w=>
 Gd m false (fun k=>Ld P 3 n w k) w fun o w=>
 Gd m false (fun k=>Cl P 137 #[o,(.int .i64 0),(.int .i64 7)] w (Pk R) k) w fun p w=>
 Gd m false (fun k=>Un P .not p w k) w fun q w=>
 cH m (.bool true) q w fun r w=>
 Gd r false (fun k=>Fa P 65 b 3 w k) w fun s w=>
 Gd r false (fun k=>Ld P 3 s w k) w fun u w=>
 Gd r false (fun k=>Cl P 137 #[u,(.int .i64 0),(.int .i64 9)] w (Pk R) k) w fun v w=>
 Gd r false (fun k=>Un P .not v w k) w fun x w=>
 cH r (.bool true) x w fun y w=>
 Gd y false (fun k=>Fa P 65 b 4 w k) w fun z w=>
 Gd y false (fun k=>Ld P 3 z w k) w fun A w=>
 Gd y false (fun k=>Cl P 137 #[A,(.int .i64 0),(.int .i64 11)] w (Pk R) k) w fun B w=>
 Gd y false (fun k=>Un P .not B w k) w fun C w=>
 cH y (.bool true) C w fun D w=>
 Gd D false (fun k=>Fa P 65 b 5 w k) w fun E w=>
 Gd D false (fun k=>Ld P 3 E w k) w fun F w=>
 Gd D false (fun k=>Cl P 137 #[F,(.int .i64 (-1)),(.int .i64 19)] w (Pk R) k) w fun G w=>
 Gd D false (fun k=>Un P .not G w k) w fun H w=>
 cH D (.bool true) H w fun I w=>
 If I
 (R (.returned (.bool false)) w)
 (Fa P 65 b 6 w fun J w=>
 Ld P 3 J w fun L w=>
 Fa P 65 b 0 w fun M w=>
 Ld P 3 M w fun N w=>
 Bn P .quo 3 true N (.int .i64 10) w fun O w=>
 Bn P .eql 3 false L O w fun S w=>
 Gd S true (fun k=>Fa P 65 b 7 w k) w fun T w=>
 Gd S true (fun k=>Ld P 3 T w k) w fun U w=>
 Gd S true (fun k=>Bn P .geq 3 true U (.int .i64 0) w k) w fun V w=>
 cH S V (.bool false) w fun W w=>
 Gd W true (fun k=>Fa P 65 b 7 w k) w fun X w=>
 Gd W true (fun k=>Ld P 3 X w k) w fun Y w=>
 Gd W true (fun k=>Fa P 65 b 8 w k) w fun Z w=>
 Gd W true (fun k=>Ld P 3 Z w k) w fun aa w=>
 Gd W true (fun k=>Bn P .leq 3 false Y aa w k) w fun ab w=>
 cH W ab (.bool false) w fun ac w=>
 Gd ac true (fun k=>Fa P 65 b 8 w k) w fun ad w=>
 Gd ac true (fun k=>Ld P 3 ad w k) w fun ae w=>
 Gd ac true (fun k=>Bn P .leq 3 true ae (.int .i64 4398046511104) w k) w fun af w=>
 cH ac af (.bool false) w fun ag w=>
 Gd ag true (fun k=>Fa P 65 b 9 w k) w fun ai w=>
 Gd ag true (fun k=>Ld P 3 ai w k) w fun aj w=>
 Gd ag true (fun k=>Cl P 137 #[aj,(.int .i64 0),(.int .i64 24000)] w (Pk R) k) w fun ak w=>
 cH ag ak (.bool false) w fun al w=>
 R (.returned al) w)
theorem dt(h:dm prog t0 w R):Calls prog 98 #[t0] w R:=
 dW (.sq .z (.sq (.sq .z (.cd (.sq .z .z) .z)) (.sq .z .z))) [t0] func98 (by kernel_rfl) (by kernel_rfl) h
theorem fQ:Enters prog 98:=enters_of func98 (by kernel_rfl) rfl
def mL(P:Program)(a b:Value)(w:World)(R:Ending->World->Prop):Prop:=
 Bx P 25 a w fun c w=>
 Al P 25 w fun d w=>
 Ld P 25 c w fun e w=>
 Cl P 138 #[e,b] w (Pk R) fun f w=>
 Ex f 0 w fun g w=>
 Ex f 1 w fun i w=>
 Ex f 2 w fun j w=>
 Ex f 3 w fun k w=>
 Un P .not k w fun l w=>
 If l
 (Bd P 25 [] w fun m w=>
 cL P 25 d m w fun w=>
 Rc P 25 d w fun n=>
 R (.returned (.tuple #[n,(.int .i64 40)])) w)
 (Cl P 131 #[g,j] w (Pk R) fun o w=>
 Ex o 0 w fun p w=>
 Ex o 1 w fun q w=>
 cL P 25 d p w fun w=>
 Rc P 25 d w fun n=>
 R (.returned (.tuple #[n,q])) w)
theorem p8(h:mL prog t0 t1 w R):Calls prog 99 #[t0,t1] w R:=
 dW (.sq .z (.sq .z (.sq (.sq .z (.cd (.sq .z .z) .z)) (.sq .z .z)))) [t0,t1] func99 (by kernel_rfl) (by kernel_rfl) h
theorem vv:Enters prog 99:=enters_of func99 (by kernel_rfl) rfl
def jZ(P:Program)(a b:Value)(w:World)(R:Ending->World->Prop):Prop:=
 Al P 25 w fun c w=>
 Cl P 109 #[a] w (Pk R) fun d w=>
 Un P .not d w fun e w=>
 Gd e false (fun k=>k b w) w fun f w=>
 Gd e false (fun k=>Cl P 109 #[f] w (Pk R) k) w fun g w=>
 Gd e false (fun k=>Un P .not g w k) w fun i w=>
 cH e (.bool true) i w fun j w=>
 Bd P 113 [(0,j)] w fun l w=>
 Bx P 113 l w fun m w=>
 Cl P 71 #[m,a,b] w (Pk R) fun n w=>
 Ex n 0 w fun o w=>
 Ex n 1 w fun p w=>
 cL P 25 c o w fun w=>
 Rc P 25 c w fun q=>
 R (.returned (.tuple #[q,p])) w
theorem mr(h:jZ prog t0 t1 w R):Calls prog 100 #[t0,t1] w R:=
 dW (.sq .z (.sq .z (.sq .z .z))) [t0,t1] func100 (by kernel_rfl) (by kernel_rfl) h
theorem yi:Enters prog 100:=enters_of func100 (by kernel_rfl) rfl
def ol(P:Program)(a:Value)(w:World)(R:Ending->World->Prop):Prop:=
 Cl P 78 #[a] w (Pk R) fun b w=>
 R (.returned b) w
theorem vw(h:ol prog t0 w R):Calls prog 101 #[t0] w R:=
 dW (.sq .z (.sq .z .z)) [t0] func101 (by kernel_rfl) (by kernel_rfl) h
theorem oo:Enters prog 101:=enters_of func101 (by kernel_rfl) rfl
def kh(P:Program)(a b c d:Value)(w:World)(R:Ending->World->Prop):Prop:=
 Nc a w fun e w=>
 Fa P 113 e 0 w fun f w=>
 Ld P 4 f w fun g w=>
 If g
 (R (.returned (bh [])) w)
 (Cw P b #[c,d] w (Pk R) fun i w=>
 Ex i 0 w fun j w=>
 Ex i 1 w fun k w=>
 Bn P .neq 46 true k (.int .i64 0) w fun l w=>
 Nc a w fun m w=>
 Fa P 113 m 0 w fun n w=>
 cL P 4 n l w fun w=>
 R (.returned j) w)
theorem nH(h:kh prog t0 t1 t2 t3 w R):Calls prog 102 #[t0,t1,t2,t3] w R:=
 dW (.sq .z (.sq (.sq .z (.cd (.sq .z .z) .z)) (.sq .z (.sq .z (.sq .z .z))))) [t0,t1,t2,t3] func102 (by kernel_rfl) (by kernel_rfl) h
theorem eG:Enters prog 102:=enters_of func102 (by kernel_rfl) rfl
def nI(P:Program)(a b:Value)(w:World)(R:Ending->World->Prop):Prop:=
 Al P 141 w fun c w=>
 Al P 141 w fun d w=>
 Cl P 139 #[a] w (Pk R) fun e w=>
 Un P .not e w fun f w=>
 Gd f false (fun k=>k b w) w fun g w=>
 Gd f false (fun k=>Cl P 139 #[g] w (Pk R) k) w fun i w=>
 Gd f false (fun k=>Un P .not i w k) w fun j w=>
 cH f (.bool true) j w fun l w=>
 If l
 (Bd P 141 [] w fun m w=>
 Bd P 141 [] w fun n w=>
 cL P 141 c m w fun w=>
 cL P 141 d n w fun w=>
 Rc P 141 c w fun o=>
 Rc P 141 d w fun p=>
 R (.returned (.tuple #[o,p,(.bool false)])) w)
 (Cl P 140 #[a] w (Pk R) fun q w=>
 Cl P 140 #[b] w (Pk R) fun r w=>
 cL P 141 c q w fun w=>
 cL P 141 d r w fun w=>
 Rc P 141 c w fun o=>
 Rc P 141 d w fun p=>
 R (.returned (.tuple #[o,p,(.bool true)])) w)
theorem sH(h:nI prog t0 t1 w R):Calls prog 103 #[t0,t1] w R:=
 dW (.sq .z (.sq (.sq .z (.cd (.sq .z .z) .z)) (.sq .z .z))) [t0,t1] func103 (by kernel_rfl) (by kernel_rfl) h
theorem dY:Enters prog 103:=enters_of func103 (by kernel_rfl) rfl
def kY(P:Program)(a b:Value)(w:World)(R:Ending->World->Prop):Prop:=
 Bx P 141 a w fun c w=>
 Bx P 141 b w fun d w=>
 Al P 141 w fun e w=>
 Fa P 141 c 0 w fun f w=>
 Ld P 4 f w fun g w=>
 Fa P 141 d 0 w fun i w=>
 Ld P 4 i w fun j w=>
 Bn P .eql 4 false g j w fun k w=>
 If k
 (gu P 141 c 0 w.drew fun l=>
 dL P 4 l w.drew fun m=>
 gu P 141 c 1 w.drew fun n=>
 dL P 139 n w.drew fun o=>
 gu P 141 d 1 w.drew fun p=>
 dL P 139 p w.drew fun q=>
 Cl P 111 #[o,q] w.drew (Pk R) fun r w=>
 cU P 4 l m w <|
 Dv P true (Instr.build 141 #[(0,m),(1,r)]) w fun s=>
 cL P 141 e s w fun w=>
 Rc P 141 e w fun u=>
 R (.returned u) w)
 (Fa P 141 c 1 w fun v w=>
 Ld P 139 v w fun x w=>
 Fa P 141 d 1 w fun y w=>
 Ld P 139 y w fun z w=>
 Cl P 114 #[x,z] w (Pk R) fun A w=>
 Bn P .geq 3 true A (.int .i64 0) w fun B w=>
 If B
 (gu P 141 c 0 w.drew fun C=>
 dL P 4 C w.drew fun D=>
 gu P 141 c 1 w.drew fun E=>
 dL P 139 E w.drew fun F=>
 gu P 141 d 1 w.drew fun G=>
 dL P 139 G w.drew fun H=>
 Cl P 113 #[F,H] w.drew (Pk R) fun I w=>
 cU P 4 C D w <|
 Dv P true (Instr.build 141 #[(0,D),(1,I)]) w fun J=>
 cL P 141 e J w fun w=>
 Rc P 141 e w fun u=>
 R (.returned u) w)
 (gu P 141 d 0 w.drew fun L=>
 dL P 4 L w.drew fun M=>
 gu P 141 d 1 w.drew fun N=>
 dL P 139 N w.drew fun O=>
 gu P 141 c 1 w.drew fun S=>
 dL P 139 S w.drew fun T=>
 Cl P 113 #[O,T] w.drew (Pk R) fun U w=>
 cU P 4 L M w <|
 Dv P true (Instr.build 141 #[(0,M),(1,U)]) w fun V=>
 cL P 141 e V w fun w=>
 Rc P 141 e w fun u=>
 R (.returned u) w))
theorem rj(h:kY prog t0 t1 w R):Calls prog 104 #[t0,t1] w R:=
 dW (.sq .z (.sq (.bk (.sq .z (.cd (.sq (.dr (.pur true 0 (.pur false 1 (.pur true 2 (.pur false 3 (.pur true 4 (.pur false 5 (.eff 6 [1] (.pur true 7 (.eff 8 [] .done)))))))))) .z) (.sq .z (.cd (.sq (.dr (.pur true 0 (.pur false 1 (.pur true 2 (.pur false 3 (.pur true 4 (.pur false 5 (.eff 6 [1] (.pur true 7 (.eff 8 [] .done)))))))))) .z) .z))))) (.sq (.dr (.pur true 0 (.pur false 1 (.pur true 2 (.pur false 3 (.pur true 4 (.pur false 5 (.eff 6 [1] (.pur true 7 (.eff 8 [] .done)))))))))) .z))) [t0,t1] func104 (by kernel_rfl) (by kernel_rfl) h
theorem kZ:Enters prog 104:=enters_of func104 (by kernel_rfl) rfl
def lg(P:Program)(a:Value)(w:World)(R:Ending->World->Prop):Prop:=
 Bx P 141 a w fun b w=>
 Fa P 141 b 1 w fun d w=>
 Ld P 139 d w fun e w=>
 Bt P .len #[139] 3 #[e] w fun f w=>
 Bn P .eql 3 true f (.int .i64 0) w fun g w=>
 If g
 (R (.returned (.tuple #[(bh [48]),(.int .i64 0)])) w)
 (Al P 173 w fun i w=>
 Fa P 141 b 1 w fun j w=>
 Ld P 139 j w fun k w=>
 Cl P 141 #[k] w (Pk R) fun l w=>
 Ha P l w (fun m n w next lv=>
 Cl P 78 #[n] w (fun _ _=>False) fun o w=>
 Fa P 141 b 1 w fun p w=>
 Ld P 139 p w fun q w=>
 Bt P .len #[139] 3 #[q] w fun r w=>
 Bn P .sub 3 true r (.int .i64 1) w fun s w=>
 Bn P .lss 3 false m s w fun u w=>
 If u
 (Bt P .len #[9] 3 #[o] w fun v w=>
 Bn P .sub 3 true (.int .i64 4) v w fun x w=>
 Cl P 136 #[(bh [48]),x] w (fun _ _=>False) fun y w=>
 Bn P .add 9 false y o w fun z w=>
 Cl P 142 #[i,z] w (fun _ _=>False) fun A w=>
 next w)
 (Cl P 142 #[i,o] w (fun _ _=>False) fun B w=>
 next w))
 (fun C w=>
 Cl P 143 #[i] w (fun c w=>Tk P C w fun w=>R (.panicked c) w) fun D w=>
 Bt P .len #[9] 3 #[D] w fun E w=>
 Bn P .gtr 3 true E (.int .i64 200) w fun F w=>
 If F
 (Tk P C w fun w=>
 R (.returned (.tuple #[(bh []),(.int .i64 30)])) w)
 (Fa P 141 b 0 w fun G w=>
 Ld P 4 G w fun H w=>
 If H
 (Bn P .add 9 true (bh [45]) D w fun I w=>
 Tk P C w fun w=>
 R (.returned (.tuple #[I,(.int .i64 0)])) w)
 (Tk P C w fun w=>
 R (.returned (.tuple #[D,(.int .i64 0)])) w)))
 (fun C w=>
 Tk P C w fun w=>
 R (.returned (.tuple #[(bh []),(.int .i64 0)])) w) [])
theorem rk(h:lg prog t0 w R):Calls prog 105 #[t0] w R:=
 dW (.sq .z (.sq (.sq .z (.cd (.sq .z .z) .z)) (.sq .z (.sq (.sq .z (.bk (.rf (.bk (.sq .z (.sq (.sq .z (.cd .z .z)) .z))) []))) (.sq .z (.sq (.sq .z (.cd (.sq .z .z) .z)) (.sq (.sq .z (.cd (.sq .z .z) .z)) (.sq .z .z)))))))) [t0] func105 (by kernel_rfl) (by kernel_rfl) h
theorem lh:Enters prog 105:=enters_of func105 (by kernel_rfl) rfl
def oP(P:Program)(a b:Value)(w:World)(R:Ending->World->Prop):Prop:=
 Cl P 103 #[a,b] w (Pk R) fun c w=>
 Ex c 0 w fun d w=>
 Ex c 1 w fun e w=>
 Ex c 2 w fun f w=>
 Al P 141 w fun g w=>
 Al P 141 w fun i w=>
 cL P 141 g d w fun w=>
 cL P 141 i e w fun w=>
 Un P .not f w fun j w=>
 If j
 (R (.returned (.tuple #[(bh []),(.int .i64 30)])) w)
 (gu P 141 g 0 w.drew fun k=>
 dL P 4 k w.drew fun l=>
 gu P 141 i 0 w.drew fun m=>
 dL P 4 m w.drew fun n=>
 Dv P true (bn .neq 4 false l n) w.drew fun o=>
 gu P 141 g 1 w.drew fun p=>
 dL P 139 p w.drew fun q=>
 gu P 141 i 1 w.drew fun r=>
 dL P 139 r w.drew fun s=>
 Cl P 144 #[q,s] w.drew (Pk R) fun u w=>
 cU P 4 k l w <|
 cU P 4 m n w <|
 Dv P true (Instr.build 141 #[(0,o),(1,u)]) w fun v=>
 Cl P 105 #[v] w (Pk R) fun x w=>
 gR x 0 fun y=>
 gR x 1 fun z=>
 R (.returned (.tuple #[y,z])) w)
theorem tX(h:oP prog t0 t1 w R):Calls prog 106 #[t0,t1] w R:=
 dW (.sq .z (.sq .z (.sq (.sq .z (.cd (.sq .z .z) .z)) (.sq (.dr (.pur true 0 (.pur false 1 (.pur true 2 (.pur false 3 (.pur true 4 (.pur true 5 (.pur false 6 (.pur true 7 (.pur false 8 (.eff 9 [1,3] (.pur true 10 (.eff 11 [] (.pur true 12 (.pur true 13 (.pur true 14 (.pur true 15 .done))))))))))))))))) .z)))) [t0,t1] func106 (by kernel_rfl) (by kernel_rfl) h
theorem A0:Enters prog 106:=enters_of func106 (by kernel_rfl) rfl
def tY(P:Program)(a b:Value)(w:World)(R:Ending->World->Prop):Prop:=
 Cl P 103 #[a,b] w (Pk R) fun c w=>
 Ex c 0 w fun d w=>
 Ex c 1 w fun e w=>
 Ex c 2 w fun f w=>
 Al P 141 w fun g w=>
 Al P 141 w fun i w=>
 cL P 141 g d w fun w=>
 cL P 141 i e w fun w=>
 Un P .not f w fun j w=>
 If j
 (R (.returned (.tuple #[(bh []),(.int .i64 30)])) w)
 (gu P 141 g 1 w.drew fun k=>
 dL P 139 k w.drew fun l=>
 gu P 141 i 1 w.drew fun m=>
 dL P 139 m w.drew fun n=>
 uN l n w.drew (fun o p w q=>
 Bt P .len #[139] 3 #[p] w fun r w=>
 Bn P .gtr 3 true r (.int .i64 0) w fun s w=>
 If s
 (Cl P 110 #[o,p] w (Pk R) fun u w=>
 Ex u 0 w fun v w=>
 Ex u 1 w fun x w=>
 q p x w)
 (Bd P 141 [(1,o)] w fun y w=>
 Cl P 105 #[y] w (Pk R) fun z w=>
 Ex z 0 w fun A w=>
 Ex z 1 w fun B w=>
 R (.returned (.tuple #[A,B])) w)))
theorem A1(h:tY prog t0 t1 w R):Calls prog 107 #[t0,t1] w R:=
 dW (.sq .z (.sq .z (.sq (.sq .z (.cd (.sq .z .z) .z)) (.sq (.dr (.pur true 0 (.pur false 1 (.pur true 2 (.pur false 3 (.pur true 4 (.pur true 5 .done))))))) (.sq (.bk (.lp [9,10] [11,12,26,27,28,29,30,31,32,33,34,35,36] (.sq (.sq .z (.cd .z .z)) (.bk (.sq .z .z))))) (.sq .z .z)))))) [t0,t1] func107 (by kernel_rfl) (by kernel_rfl) h
theorem tZ:Enters prog 107:=enters_of func107 (by kernel_rfl) rfl
def jM(P:Program)(a b c:Value)(w:World)(R:Ending->World->Prop):Prop:=
 Cl P 102 #[a,(.func (.func 145) #[] #[]),b,c] w (Pk R) fun d w=>
 R (.returned d) w
theorem oQ(h:jM prog t0 t1 t2 w R):Calls prog 108 #[t0,t1,t2] w R:=
 dW (.sq .z (.sq .z .z)) [t0,t1,t2] func108 (by kernel_rfl) (by kernel_rfl) h
theorem jN:Enters prog 108:=enters_of func108 (by kernel_rfl) rfl
def qO(P:Program)(a:Value)(w:World)(R:Ending->World->Prop):Prop:=
 Cl P 139 #[a] w (Pk R) fun b w=>
 R (.returned b) w
theorem yj(h:qO prog t0 w R):Calls prog 109 #[t0] w R:=
 dW (.sq .z (.sq .z .z)) [t0] func109 (by kernel_rfl) (by kernel_rfl) h
theorem dG:Enters prog 109:=enters_of func109 (by kernel_rfl) rfl
def li(P:Program)(a b:Value)(w:World)(R:Ending->World->Prop):Prop:=
 Bx P 139 b w fun d w=>
 Al P 139 w fun e w=>
 Al P 139 w fun f w=>
 Bt P .len #[139] 3 #[a] w fun g w=>
 Ms P 139 g g w fun i w=>
 cL P 139 e i w fun w=>
 Cl P 141 #[a] w (Pk R) fun j w=>
 Ha P j w (fun k l w next lv=>
 Bs P 139 1 [(0,l)] w fun m w=>
 Ld P 139 f w fun n w=>
 Bt P .append #[139,139] 139 #[m,n] w fun o w=>
 Cl P 146 #[o] w (fun _ _=>False) fun p w=>
 cL P 139 f p w fun w=>
 Ld P 139 d w fun q w=>
 Al P 178 w fun r w=>
 cL P 178 r (.func (.func 147) #[q] #[]) w fun w=>
 dL P 139 e w.drew fun s=>
 Cl P 149 #[(.int .i64 9999),(.func (.func 148) #[] #[r,f])] w.drew (fun _ _=>False) fun u w=>
 cU P 139 e s w <|
 tM P 139 s k w fun v=>
 cL P 3 v u w fun w=>
 dL P 139 f w.drew fun x=>
 dL P 178 r w.drew fun y=>
 dL P 139 e w.drew fun z=>
 tM P 139 z k w.drew fun A=>
 dL P 3 A w.drew fun B=>
 Cw P y #[B] w.drew (fun _ _=>False) fun C w=>
 cU P 139 f x w <|
 Cl P 113 #[x,C] w (fun _ _=>False) fun D w=>
 cL P 139 f D w fun w=>
 next w)
 (fun E w=>
 dL P 139 e w.drew fun F=>
 dL P 139 f w.drew fun G=>
 Cl P 146 #[F] w.drew (fun c w=>Tk P E w fun w=>R (.panicked c) w) fun H w=>
 cU P 139 f G w <|
 cL P 139 e H w fun w=>
 cU P 139 f G w <|
 cL P 139 f G w fun w=>
 Tk P E w fun w=>
 Rc P 139 e w fun I=>
 Rc P 139 f w fun J=>
 R (.returned (.tuple #[I,J])) w)
 (fun E w=>
 Tk P E w fun w=>
 Rc P 139 e w fun I=>
 Rc P 139 f w fun J=>
 R (.returned (.tuple #[I,J])) w) []
theorem rl(h:li prog t0 t1 w R):Calls prog 110 #[t0,t1] w R:=
 dW (.sq .z (.sq .z (.sq (.sq .z (.bk (.rf (.bk (.sq .z (.sq .z (.sq .z (.sq (.dr (.pur false 0 (.pur true 1 (.pur true 2 (.eff 3 [0] (.pur true 4 (.eff 5 [] .done))))))) (.dr (.pur false 0 (.pur false 1 (.pur false 2 (.pur true 3 (.pur true 4 (.pur false 5 (.eff 6 [0] (.eff 7 [] (.eff 8 [] .done))))))))))))))) []))) (.sq (.dr (.pur false 0 (.pur false 2 (.eff 1 [2] (.eff 3 [2] (.eff 4 [] .done)))))) .z)))) [t0,t1] func110 (by kernel_rfl) (by kernel_rfl) h
theorem lj:Enters prog 110:=enters_of func110 (by kernel_rfl) rfl
def ll(P:Program)(a b:Value)(w:World)(R:Ending->World->Prop):Prop:=
 Bx P 139 a w fun c w=>
 Bx P 139 b w fun d w=>
 Ld P 139 c w fun e w=>
 Bt P .len #[139] 3 #[e] w fun f w=>
 Ld P 139 d w fun g w=>
 Bt P .len #[139] 3 #[g] w fun i w=>
 Bt P .max #[3,3] 3 #[f,i] w fun j w=>
 Cl P 150 #[j,(.int .i64 0),(.func (.func 151) #[] #[c,d])] w (Pk R) fun k w=>
 Cl P 146 #[k] w (Pk R) fun l w=>
 R (.returned l) w
theorem rm(h:ll prog t0 t1 w R):Calls prog 111 #[t0,t1] w R:=
 dW (.sq .z (.sq .z .z)) [t0,t1] func111 (by kernel_rfl) (by kernel_rfl) h
theorem iL:Enters prog 111:=enters_of func111 (by kernel_rfl) rfl
def ua(P:Program)(w:World)(R:Ending->World->Prop):Prop:=
 Bs P 139 1 [(0,(.int .i64 1))] w fun a w=>
 R (.returned a) w
theorem A2(h:ua prog w R):Calls prog 112 #[] w R:=
 dW (.sq .z (.sq .z .z)) [] func112 (by kernel_rfl) (by kernel_rfl) h
theorem A3:Enters prog 112:=enters_of func112 (by kernel_rfl) rfl
def kI(P:Program)(a b:Value)(w:World)(R:Ending->World->Prop):Prop:=
 Bx P 139 a w fun c w=>
 Bx P 139 b w fun d w=>
 Ld P 139 c w fun e w=>
 Bt P .len #[139] 3 #[e] w fun f w=>
 Cl P 150 #[f,(.int .i64 0),(.func (.func 153) #[] #[c,d])] w (Pk R) fun g w=>
 Cl P 146 #[g] w (Pk R) fun i w=>
 R (.returned i) w
theorem qc(h:kI prog t0 t1 w R):Calls prog 113 #[t0,t1] w R:=
 dW (.sq .z (.sq .z .z)) [t0,t1] func113 (by kernel_rfl) (by kernel_rfl) h
theorem gj:Enters prog 113:=enters_of func113 (by kernel_rfl) rfl
def jO(P:Program)(a b:Value)(w:World)(R:Ending->World->Prop):Prop:=
 Bx P 139 b w fun c w=>
 Al P 3 w fun d w=>
 Bt P .len #[139] 3 #[a] w fun e w=>
 Ld P 139 c w fun f w=>
 Bt P .len #[139] 3 #[f] w fun g w=>
 Bn P .neq 3 false e g w fun i w=>
 If i
 (Bt P .len #[139] 3 #[a] w fun j w=>
 Ld P 139 c w fun k w=>
 Bt P .len #[139] 3 #[k] w fun l w=>
 Cl P 135 #[j,l] w (Pk R) fun m w=>
 cL P 3 d m w fun w=>
 Rc P 3 d w fun n=>
 R (.returned n) w)
 (Cl P 141 #[a] w (Pk R) fun o w=>
 Ha P o w (fun p q w next lv=>
 Ld P 139 c w fun r w=>
 Ia P 139 r p w fun s w=>
 Ld P 3 s w fun u w=>
 Bn P .neq 3 false q u w fun v w=>
 If v
 (Ld P 139 c w fun x w=>
 Ia P 139 x p w fun y w=>
 Ld P 3 y w fun z w=>
 Cl P 135 #[q,z] w (fun _ _=>False) fun A w=>
 cL P 3 d A w fun w=>
 lv .ret w)
 (next w))
 (fun B w=>
 cL P 3 d (.int .i64 0) w fun w=>
 Tk P B w fun w=>
 Rc P 3 d w fun n=>
 R (.returned n) w)
 (fun B w=>
 Tk P B w fun w=>
 Rc P 3 d w fun n=>
 R (.returned n) w) [])
theorem oS(h:jO prog t0 t1 w R):Calls prog 114 #[t0,t1] w R:=
 dW (.sq .z (.sq (.sq .z (.cd (.sq .z .z) .z)) (.sq (.sq .z (.bk (.rf (.bk (.sq .z (.cd (.sq .z .z) .z))) []))) (.sq .z .z)))) [t0,t1] func114 (by kernel_rfl) (by kernel_rfl) h
theorem fD:Enters prog 114:=enters_of func114 (by kernel_rfl) rfl
def ub(P:Program)(a:Value)(w:World)(R:Ending->World->Prop):Prop:=
 mE (fun b=>
 Bt P .len #[9] 3 #[a] w fun c w=>
 Bn P .gtr 3 true c (.int .i64 0) w fun d w=>
 Gd d true (fun k=>k a w) w fun e w=>
 Gd d true (fun k=>Ix P 9 e (.int .i64 0) w k) w fun f w=>
 Gd d true (fun k=>Bn P .eql 5 true f (.int .u8 45) w k) w fun g w=>
 cH d g (.bool false) w fun i w=>
 If i
 (Sc P 9 a (some (.int .i64 1)) none none w fun j w=>
 Bn P .eql 9 true j (bh [48]) w fun l w=>
 If l
 (R (.returned (.bool false)) w)
 (b j w))
 (b a w))
 (fun m w=>
 jt (.int .i64 0) w (fun n w o=>
 Bt P .len #[9] 3 #[m] w fun p w=>
 Bn P .lss 3 false n p w fun q w=>
 If q
 (Ix P 9 m n w fun r w=>
 Bn P .lss 5 true r (.int .u8 48) w fun s w=>
 Gd s false (fun k=>k m w) w fun u w=>
 Gd s false (fun k=>k n w) w fun v w=>
 Gd s false (fun k=>Ix P 9 u v w k) w fun x w=>
 Gd s false (fun k=>Bn P .gtr 5 true x (.int .u8 57) w k) w fun y w=>
 cH s (.bool true) y w fun z w=>
 If z
 (R (.returned (.bool false)) w)
 (Bn P .add 3 true n (.int .i64 1) w fun A w=>
 o A w))
 (Bt P .len #[9] 3 #[m] w fun B w=>
 Bn P .gtr 3 true B (.int .i64 0) w fun C w=>
 Gd C true (fun k=>k m w) w fun D w=>
 Gd C true (fun k=>Bt P .len #[9] 3 #[D] w k) w fun E w=>
 Gd C true (fun k=>Bn P .leq 3 true E (.int .i64 200) w k) w fun F w=>
 cH C F (.bool false) w fun G w=>
 Gd G true (fun k=>k m w) w fun H w=>
 Gd G true (fun k=>Bn P .eql 9 true H (bh [48]) w k) w fun I w=>
 Gd G true (fun k=>k I w) w fun J w=>
 Gd J false (fun k=>k m w) w fun L w=>
 Gd J false (fun k=>Ix P 9 L (.int .i64 0) w k) w fun M w=>
 Gd J false (fun k=>Bn P .neq 5 true M (.int .u8 48) w k) w fun N w=>
 Gd G true (fun k=>cH J (.bool true) N w k) w fun O w=>
 cH G O (.bool false) w fun S w=>
 R (.returned S) w)))
theorem A5(h:ub prog t0 w R):Calls prog 118 #[t0] w R:=
 dW (.sq .z (.jn [0] [2,4,5,6,7,8,9,10,11,12,13,14,15] (.sq .z (.cd (.sq .z (.sq .z (.cd (.sq .z .z) .z))) .z)) (.sq (.sq .z (.bk (.lp [3] [2,16,17,18,19,20,21,22,23,24,25,26,27,28,29,30,31] (.sq (.sq .z (.cd .z .z)) (.sq (.bk (.sq .z (.cd (.sq .z .z) .z))) .z))))) (.sq .z .z)))) [t0] func118 (by kernel_rfl) (by kernel_rfl) h
theorem cp:Enters prog 118:=enters_of func118 (by kernel_rfl) rfl
def xA(P:Program)(a b:Value)(w:World)(R:Ending->World->Prop):Prop:=
 Cl P 118 #[a] w (Pk R) fun c w=>
 Un P .not c w fun d w=>
 Gd d false (fun k=>k b w) w fun e w=>
 Gd d false (fun k=>Cl P 118 #[e] w (Pk R) k) w fun f w=>
 Gd d false (fun k=>Un P .not f w k) w fun g w=>
 cH d (.bool true) g w fun i w=>
 If i
 (R (.returned (.tuple #[(bh []),(.int .i64 30)])) w)
 (Cl P 121 #[a] w (Pk R) fun j w=>
 Ex j 0 w fun l w=>
 Ex j 1 w fun m w=>
 Cl P 121 #[b] w (Pk R) fun n w=>
 Ex n 0 w fun o w=>
 Ex n 1 w fun p w=>
 uN m p w (fun q r w s=>
 Bt P .len #[33] 3 #[r] w fun u w=>
 Bn P .gtr 3 true u (.int .i64 0) w fun v w=>
 If v
 (Cl P 122 #[q,r] w (Pk R) fun x w=>
 Ex x 0 w fun y w=>
 Ex x 1 w fun z w=>
 s r z w)
 (Cl P 125 #[(.bool false),q] w (Pk R) fun A w=>
 Ex A 0 w fun B w=>
 Ex A 1 w fun C w=>
 R (.returned (.tuple #[B,C])) w)))
theorem Eo(h:xA prog t0 t1 w R):Calls prog 119 #[t0,t1] w R:=
 dW (.sq .z (.sq (.sq .z (.cd (.sq .z .z) .z)) (.sq .z (.sq .z (.sq (.bk (.lp [7,9] [10,11,30,31,32,33,34,35,36,37,38,39,40] (.sq (.sq .z (.cd .z .z)) (.bk (.sq .z (.sq .z .z)))))) (.sq .z .z)))))) [t0,t1] func119 (by kernel_rfl) (by kernel_rfl) h
theorem xB:Enters prog 119:=enters_of func119 (by kernel_rfl) rfl
def sI(P:Program)(a b:Value)(w:World)(R:Ending->World->Prop):Prop:=
 Bx P 25 a w fun c w=>
 Bx P 25 b w fun d w=>
 Al P 25 w fun e w=>
 Ld P 25 c w fun f w=>
 Cl P 79 #[f] w (Pk R) fun g w=>
 Ld P 25 d w fun i w=>
 Cl P 79 #[i] w (Pk R) fun j w=>
 Un P .not g w fun l w=>
 Gd l false (fun k=>k j w) w fun m w=>
 Gd l false (fun k=>Un P .not m w k) w fun n w=>
 cH l (.bool true) n w fun o w=>
 If o
 (Bd P 25 [] w fun p w=>
 cL P 25 e p w fun w=>
 Rc P 25 e w fun q=>
 R (.returned (.tuple #[q,(.int .i64 40)])) w)
 (Fa P 25 c 0 w fun r w=>
 Ld P 9 r w fun s w=>
 Fa P 25 d 0 w fun u w=>
 Ld P 9 u w fun v w=>
 Cl P 160 #[s,v] w (Pk R) fun x w=>
 Ex x 0 w fun y w=>
 Ex x 1 w fun z w=>
 Fa P 25 c 1 w fun A w=>
 Ld P 9 A w fun B w=>
 Fa P 25 d 1 w fun C w=>
 Ld P 9 C w fun D w=>
 Cl P 160 #[B,D] w (Pk R) fun E w=>
 Ex E 0 w fun F w=>
 Ex E 1 w fun G w=>
 Bn P .neq 46 true z (.int .i64 0) w fun H w=>
 Gd H false (fun k=>k G w) w fun I w=>
 Gd H false (fun k=>Bn P .neq 46 true I (.int .i64 0) w k) w fun J w=>
 cH H (.bool true) J w fun L w=>
 If L
 (Bd P 25 [] w fun M w=>
 cL P 25 e M w fun w=>
 Rc P 25 e w fun q=>
 R (.returned (.tuple #[q,(.int .i64 40)])) w)
 (Cl P 131 #[y,F] w (Pk R) fun N w=>
 Ex N 0 w fun O w=>
 Ex N 1 w fun S w=>
 cL P 25 e O w fun w=>
 Rc P 25 e w fun q=>
 R (.returned (.tuple #[q,S])) w))
theorem xC(h:sI prog t0 t1 w R):Calls prog 120 #[t0,t1] w R:=
 dW (.sq .z (.sq .z (.sq .z (.sq (.sq .z (.cd (.sq .z .z) .z)) (.sq .z (.sq .z (.sq (.sq .z (.cd (.sq .z .z) .z)) (.sq .z .z)))))))) [t0,t1] func120 (by kernel_rfl) (by kernel_rfl) h
theorem Ep:Enters prog 120:=enters_of func120 (by kernel_rfl) rfl
def sJ(P:Program)(a:Value)(w:World)(R:Ending->World->Prop):Prop:=
 Ix P 9 a (.int .i64 0) w fun b w=>
 Bn P .eql 5 true b (.int .u8 45) w fun c w=>
 mE (fun d=>
 If c
 (Sc P 9 a (some (.int .i64 1)) none none w fun e w=>
 d e w)
 (d a w))
 (fun f w=>
 Bt P .len #[9] 3 #[f] w fun g w=>
 Bn P .sub 3 true g (.int .i64 1) w fun i w=>
 uN (.slice none 0 0) i w (fun j l w m=>
 Bn P .geq 3 true l (.int .i64 0) w fun n w=>
 Gd n true (fun k=>k f w) w fun o w=>
 Gd n true (fun k=>Bn P .neq 9 true o (bh [48]) w k) w fun p w=>
 cH n p (.bool false) w fun q w=>
 If q
 (Ix P 9 f l w fun r w=>
 Bn P .sub 5 true r (.int .u8 48) w fun s w=>
 Cv P 5 3 s w fun u w=>
 Bs P 33 1 [(0,u)] w fun v w=>
 Bt P .append #[33,33] 33 #[j,v] w fun x w=>
 Bn P .sub 3 true l (.int .i64 1) w fun y w=>
 m x y w)
 (R (.returned (.tuple #[c,j])) w)))
theorem Ab(h:sJ prog t0 w R):Calls prog 121 #[t0] w R:=
 dW (.sq .z (.sq .z (.jn [0] [10,11,12] (.sq .z (.cd .z .z)) (.sq .z (.sq (.sq .z (.bk (.lp [5,6] [16,17,18,19,20,21,22,23,24,25,26,27,28,29,30,31] (.sq (.sq .z (.cd .z .z)) (.sq (.bk .z) .z))))) (.sq .z .z)))))) [t0] func121 (by kernel_rfl) (by kernel_rfl) h
theorem cJ:Enters prog 121:=enters_of func121 (by kernel_rfl) rfl
def qP(P:Program)(a b:Value)(w:World)(R:Ending->World->Prop):Prop:=
 Bt P .len #[33] 3 #[a] w fun c w=>
 Ms P 33 c c w fun d w=>
 Bt P .len #[33] 3 #[a] w fun e w=>
 Bn P .sub 3 true e (.int .i64 1) w fun f w=>
 uN (.slice none 0 0) f w (fun g i w j=>
 Bn P .geq 3 true i (.int .i64 0) w fun k w=>
 If k
 (Ia P 33 a i w fun l w=>
 Ld P 3 l w fun m w=>
 Bs P 33 1 [(0,m)] w fun n w=>
 Bt P .append #[33,33] 33 #[n,g] w fun o w=>
 Cl P 161 #[o] w (Pk R) fun p w=>
 jt p w (fun q w r=>
 Cl P 127 #[q,b] w (Pk R) fun s w=>
 Bn P .geq 3 true s (.int .i64 0) w fun u w=>
 If u
 (Cl P 124 #[q,b] w (Pk R) fun v w=>
 Ia P 33 d i w fun x w=>
 Ld P 3 x w fun y w=>
 Bn P .add 3 true y (.int .i64 1) w fun z w=>
 Ia P 33 d i w fun A w=>
 cL P 3 A z w fun w=>
 r v w)
 (Bn P .sub 3 true i (.int .i64 1) w fun B w=>
 j q B w)))
 (Cl P 161 #[d] w (Pk R) fun C w=>
 R (.returned (.tuple #[C,g])) w))
theorem ym(h:qP prog t0 t1 w R):Calls prog 122 #[t0,t1] w R:=
 dW (.sq .z (.sq .z (.sq .z (.sq (.sq .z (.bk (.lp [7,8] [15,16,17,18,19,20,21,22,23,24,25,26,27,28,29,30,31,32,33,34,35,36,37,38,39] (.sq (.sq .z (.cd .z .z)) (.sq (.bk (.sq .z (.bk (.lp [7] [27,28,29,30,31,32,33,34,35,36,37,38,39] (.sq (.sq .z (.cd .z .z)) (.bk (.sq .z .z))))))) .z))))) (.sq .z .z))))) [t0,t1] func122 (by kernel_rfl) (by kernel_rfl) h
theorem iz:Enters prog 122:=enters_of func122 (by kernel_rfl) rfl
def vz(P:Program)(a b:Value)(w:World)(R:Ending->World->Prop):Prop:=
 Nv (.slice none 0 0) (.int .i64 0) (.int .i64 0) w (fun c d e w f=>
 Bt P .len #[33] 3 #[a] w fun g w=>
 Bn P .lss 3 false e g w fun i w=>
 Gd i false (fun k=>k e w) w fun j w=>
 Gd i false (fun k=>k b w) w fun l w=>
 Gd i false (fun k=>Bt P .len #[33] 3 #[l] w k) w fun m w=>
 Gd i false (fun k=>Bn P .lss 3 false j m w k) w fun n w=>
 cH i (.bool true) n w fun o w=>
 Gd o false (fun k=>k d w) w fun p w=>
 Gd o false (fun k=>Bn P .gtr 3 true p (.int .i64 0) w k) w fun q w=>
 cH o (.bool true) q w fun r w=>
 If r
 (mE (fun s=>
 Bt P .len #[33] 3 #[a] w fun u w=>
 Bn P .lss 3 false e u w fun v w=>
 If v
 (Ia P 33 a e w fun x w=>
 Ld P 3 x w fun y w=>
 Bn P .add 3 false d y w fun z w=>
 s z w)
 (s d w))
 (fun A w=>
 mE (fun B=>
 Bt P .len #[33] 3 #[b] w fun C w=>
 Bn P .lss 3 false e C w fun D w=>
 If D
 (Ia P 33 b e w fun E w=>
 Ld P 3 E w fun F w=>
 Bn P .add 3 false A F w fun G w=>
 B G w)
 (B A w))
 (fun H w=>
 Bn P .rem 3 true H (.int .i64 10) w fun I w=>
 Bs P 33 1 [(0,I)] w fun J w=>
 Bt P .append #[33,33] 33 #[c,J] w fun L w=>
 Bn P .quo 3 true H (.int .i64 10) w fun M w=>
 Bn P .add 3 true e (.int .i64 1) w fun N w=>
 f L M N w)))
 (R (.returned c) w))
theorem CU(h:vz prog t0 t1 w R):Calls prog 123 #[t0,t1] w R:=
 dW (.sq .z (.sq .z (.sq .z (.sq (.sq .z (.bk (.lp [5,6,7] [8,9,10,11,12,13,14,15,16,17,18,19,20,21,22,23,24,25,26,27,28,29,30,31,32,33,34,35,36,37,38,39,40,41,42,43,44,45,46,47,48,49,50,51,52] (.sq (.sq .z (.cd .z .z)) (.sq (.bk (.sq .z (.jn [8] [26,27,28,29,30,31,32,33,34,35] (.sq .z (.cd .z .z)) (.jn [8] [36,37,38,39,40,41,42,43,44,45] (.sq .z (.cd .z .z)) (.sq .z .z))))) .z))))) (.sq .z .z))))) [t0,t1] func123 (by kernel_rfl) (by kernel_rfl) h
theorem mM:Enters prog 123:=enters_of func123 (by kernel_rfl) rfl
def uc(P:Program)(a b:Value)(w:World)(R:Ending->World->Prop):Prop:=
 Nv (.slice none 0 0) (.int .i64 0) (.int .i64 0) w (fun c d e w f=>
 Bt P .len #[33] 3 #[a] w fun g w=>
 Bn P .lss 3 false e g w fun i w=>
 If i
 (Ia P 33 a e w fun j w=>
 Ld P 3 j w fun k w=>
 Bn P .sub 3 false k d w fun l w=>
 mE (fun m=>
 Bt P .len #[33] 3 #[b] w fun n w=>
 Bn P .lss 3 false e n w fun o w=>
 If o
 (Ia P 33 b e w fun p w=>
 Ld P 3 p w fun q w=>
 Bn P .sub 3 false l q w fun r w=>
 m r w)
 (m l w))
 (fun s w=>
 Bn P .lss 3 true s (.int .i64 0) w fun u w=>
 If u
 (Bn P .add 3 true s (.int .i64 10) w fun v w=>
 Bs P 33 1 [(0,v)] w fun x w=>
 Bt P .append #[33,33] 33 #[c,x] w fun y w=>
 Bn P .add 3 true e (.int .i64 1) w fun z w=>
 f y (.int .i64 1) z w)
 (Bs P 33 1 [(0,s)] w fun A w=>
 Bt P .append #[33,33] 33 #[c,A] w fun B w=>
 Bn P .add 3 true e (.int .i64 1) w fun C w=>
 f B (.int .i64 0) C w)))
 (Cl P 161 #[c] w (Pk R) fun D w=>
 R (.returned D) w))
theorem A6(h:uc prog t0 t1 w R):Calls prog 124 #[t0,t1] w R:=
 dW (.sq .z (.sq .z (.sq .z (.sq (.sq .z (.bk (.lp [5,6,7] [8,9,10,11,12,13,14,15,16,17,18,19,20,21,22,23,24,25,26,27,28,29,30,31,32,33,34,35,36,37,38] (.sq (.sq .z (.cd .z .z)) (.sq (.bk (.sq .z (.jn [8] [21,22,23,24,25,26,27,28,29,30] (.sq .z (.cd .z .z)) (.sq .z (.sq (.sq .z (.cd (.sq .z .z) .z)) .z))))) .z))))) (.sq .z .z))))) [t0,t1] func124 (by kernel_rfl) (by kernel_rfl) h
theorem hU:Enters prog 124:=enters_of func124 (by kernel_rfl) rfl
def qQ(P:Program)(a b:Value)(w:World)(R:Ending->World->Prop):Prop:=
 Cl P 126 #[a,b] w (Pk R) fun c w=>
 Ex c 0 w fun d w=>
 Ex c 1 w fun e w=>
 Un P .not e w fun f w=>
 If f
 (R (.returned (.tuple #[(bh []),(.int .i64 30)])) w)
 (R (.returned (.tuple #[d,(.int .i64 0)])) w)
theorem yo(h:qQ prog t0 t1 w R):Calls prog 125 #[t0,t1] w R:=
 dW (.sq .z (.sq .z (.sq (.sq .z (.cd (.sq .z .z) .z)) (.sq .z .z)))) [t0,t1] func125 (by kernel_rfl) (by kernel_rfl) h
theorem fS:Enters prog 125:=enters_of func125 (by kernel_rfl) rfl
def vE(P:Program)(a b:Value)(w:World)(R:Ending->World->Prop):Prop:=
 Bt P .len #[33] 3 #[b] w fun c w=>
 Bn P .eql 3 true c (.int .i64 0) w fun d w=>
 If d
 (R (.returned (.tuple #[(bh [48]),(.bool true)])) w)
 (mE (fun e=>
 If a
 (Bs P 171 1 [(0,(.int .u8 45))] w fun f w=>
 Bt P .append #[171,171] 171 #[(.slice none 0 0),f] w fun g w=>
 e g w)
 (e (.slice none 0 0) w))
 (fun i w=>
 Bt P .len #[33] 3 #[b] w fun j w=>
 Bn P .sub 3 true j (.int .i64 1) w fun k w=>
 uN i k w (fun l m w n=>
 Bn P .geq 3 true m (.int .i64 0) w fun o w=>
 If o
 (Ia P 33 b m w fun p w=>
 Ld P 3 p w fun q w=>
 Bn P .add 3 true (.int .i64 48) q w fun r w=>
 Cv P 3 5 r w fun s w=>
 Bs P 171 1 [(0,s)] w fun u w=>
 Bt P .append #[171,171] 171 #[l,u] w fun v w=>
 Bn P .sub 3 true m (.int .i64 1) w fun x w=>
 n v x w)
 (Cv P 171 9 l w fun y w=>
 Bt P .len #[33] 3 #[b] w fun z w=>
 Bn P .leq 3 true z (.int .i64 200) w fun A w=>
 R (.returned (.tuple #[y,A])) w))))
theorem CV(h:vE prog t0 t1 w R):Calls prog 126 #[t0,t1] w R:=
 dW (.sq .z (.sq (.sq .z (.cd (.sq .z .z) .z)) (.sq .z (.jn [6] [11,12,13,14] (.sq .z (.cd .z .z)) (.sq (.sq .z (.bk (.lp [6,7] [18,19,20,21,22,23,24,25,26,27,28,29,30] (.sq (.sq .z (.cd .z .z)) (.sq (.bk .z) .z))))) (.sq .z .z)))))) [t0,t1] func126 (by kernel_rfl) (by kernel_rfl) h
theorem jy:Enters prog 126:=enters_of func126 (by kernel_rfl) rfl
def jP(P:Program)(a b:Value)(w:World)(R:Ending->World->Prop):Prop:=
 Bt P .len #[33] 3 #[a] w fun c w=>
 Bt P .len #[33] 3 #[b] w fun d w=>
 Bn P .neq 3 false c d w fun e w=>
 If e
 (Bt P .len #[33] 3 #[a] w fun f w=>
 Bt P .len #[33] 3 #[b] w fun g w=>
 Bn P .lss 3 false f g w fun i w=>
 If i
 (R (.returned (.int .i64 (-1))) w)
 (R (.returned (.int .i64 1)) w))
 (Bt P .len #[33] 3 #[a] w fun j w=>
 Bn P .sub 3 true j (.int .i64 1) w fun k w=>
 jt k w (fun l w m=>
 Bn P .geq 3 true l (.int .i64 0) w fun n w=>
 If n
 (tM P 33 a l w.drew fun o=>
 dL P 3 o w.drew fun p=>
 tM P 33 b l w.drew fun q=>
 dL P 3 q w.drew fun r=>
 Dv P true (bn .neq 3 false p r) w.drew fun s=>
 If s
 (Dv P true (Instr.indexAt 33 a l) w.drew.drew fun u=>
 Dv P false (Instr.loadAt 3 u) w.drew.drew fun v=>
 Dv P true (Instr.indexAt 33 b l) w.drew.drew fun x=>
 Dv P false (Instr.loadAt 3 x) w.drew.drew fun y=>
 Dv P true (bn .lss 3 false v y) w.drew.drew fun z=>
 If z
 (R (.returned (.int .i64 (-1))) w.drew.drew)
 (R (.returned (.int .i64 1)) w.drew.drew))
 (Bn P .sub 3 true l (.int .i64 1) w.drew fun A w=>
 m A w))
 (R (.returned (.int .i64 0)) w)))
theorem lO(h:jP prog t0 t1 w R):Calls prog 127 #[t0,t1] w R:=
 dW (.sq .z (.sq (.sq .z (.cd (.sq (.sq .z (.cd (.sq .z .z) .z)) (.sq .z .z)) .z)) (.sq (.sq .z (.bk (.lp [5] [4,19,20,21,22,23,24,25,26,27,28,29,30,31,32,33,34,35,36,37,38,39,40] (.sq (.sq .z (.cd .z .z)) (.sq (.bk (.sq (.dr (.pur true 0 (.pur true 1 (.pur true 2 (.pur false 3 (.pur true 4 (.pur true 5 (.pur true 6 (.pur false 7 (.pur true 8 .done)))))))))) (.cd (.sq (.sq (.dr (.pur true 0 (.pur true 1 (.pur true 2 (.pur false 3 (.pur true 4 (.pur true 5 (.pur true 6 (.pur false 7 (.pur true 8 .done)))))))))) (.cd (.sq .z .z) .z)) (.sq .z .z)) .z))) .z))))) (.sq .z .z)))) [t0,t1] func127 (by kernel_rfl) (by kernel_rfl) h
theorem jQ:Enters prog 127:=enters_of func127 (by kernel_rfl) rfl
def l6(P:Program)(a b:Value)(w:World)(R:Ending->World->Prop):Prop:=
 Bx P 25 a w fun c w=>
 Bx P 25 b w fun d w=>
 Al P 25 w fun e w=>
 Ld P 25 c w fun f w=>
 Ld P 25 d w fun g w=>
 Cl P 129 #[f,g] w (Pk R) fun i w=>
 Ex i 0 w fun j w=>
 Ex i 1 w fun k w=>
 Ex i 2 w fun l w=>
 Ex i 3 w fun m w=>
 Un P .not m w fun n w=>
 If n
 (Bd P 25 [] w fun o w=>
 cL P 25 e o w fun w=>
 Rc P 25 e w fun p=>
 R (.returned (.tuple #[p,(.int .i64 40)])) w)
 (Cl P 162 #[j,k] w (Pk R) fun q w=>
 Ex q 0 w fun r w=>
 Ex q 1 w fun s w=>
 Bn P .neq 46 true s (.int .i64 0) w fun u w=>
 If u
 (Bd P 25 [] w fun v w=>
 cL P 25 e v w fun w=>
 Rc P 25 e w fun p=>
 R (.returned (.tuple #[p,(.int .i64 40)])) w)
 (Cl P 131 #[r,l] w (Pk R) fun x w=>
 Ex x 0 w fun y w=>
 Ex x 1 w fun z w=>
 cL P 25 e y w fun w=>
 Rc P 25 e w fun p=>
 R (.returned (.tuple #[p,z])) w))
theorem ow(h:l6 prog t0 t1 w R):Calls prog 128 #[t0,t1] w R:=
 dW (.sq .z (.sq .z (.sq (.sq .z (.cd (.sq .z .z) .z)) (.sq .z (.sq (.sq .z (.cd (.sq .z .z) .z)) (.sq .z .z)))))) [t0,t1] func128 (by kernel_rfl) (by kernel_rfl) h
theorem Er:Enters prog 128:=enters_of func128 (by kernel_rfl) rfl
def oT(P:Program)(a b:Value)(w:World)(R:Ending->World->Prop):Prop:=
 Bx P 25 a w fun c w=>
 Bx P 25 b w fun d w=>
 Ld P 25 c w fun e w=>
 Cl P 79 #[e] w (Pk R) fun f w=>
 Ld P 25 d w fun g w=>
 Cl P 79 #[g] w (Pk R) fun i w=>
 Un P .not f w fun j w=>
 Gd j false (fun k=>k i w) w fun l w=>
 Gd j false (fun k=>Un P .not l w k) w fun m w=>
 cH j (.bool true) m w fun n w=>
 If n
 (R (.returned (.tuple #[(bh []),(bh []),(bh []),(.bool false)])) w)
 (Fa P 25 c 0 w fun o w=>
 Ld P 9 o w fun p w=>
 Fa P 25 d 1 w fun q w=>
 Ld P 9 q w fun r w=>
 Cl P 160 #[p,r] w (Pk R) fun s w=>
 Ex s 0 w fun u w=>
 Ex s 1 w fun v w=>
 Fa P 25 d 0 w fun x w=>
 Ld P 9 x w fun y w=>
 Fa P 25 c 1 w fun z w=>
 Ld P 9 z w fun A w=>
 Cl P 160 #[y,A] w (Pk R) fun B w=>
 Ex B 0 w fun C w=>
 Ex B 1 w fun D w=>
 Fa P 25 c 1 w fun E w=>
 Ld P 9 E w fun F w=>
 Fa P 25 d 1 w fun G w=>
 Ld P 9 G w fun H w=>
 Cl P 160 #[F,H] w (Pk R) fun I w=>
 Ex I 0 w fun J w=>
 Ex I 1 w fun L w=>
 Bn P .eql 46 true v (.int .i64 0) w fun M w=>
 Gd M true (fun k=>k D w) w fun N w=>
 Gd M true (fun k=>Bn P .eql 46 true N (.int .i64 0) w k) w fun O w=>
 cH M O (.bool false) w fun S w=>
 Gd S true (fun k=>k L w) w fun T w=>
 Gd S true (fun k=>Bn P .eql 46 true T (.int .i64 0) w k) w fun U w=>
 cH S U (.bool false) w fun V w=>
 R (.returned (.tuple #[u,C,J,V])) w)
theorem ud(h:oT prog t0 t1 w R):Calls prog 129 #[t0,t1] w R:=
 dW (.sq .z (.sq .z (.sq .z (.sq (.sq .z (.cd (.sq .z .z) .z)) (.sq .z (.sq .z (.sq .z (.sq .z .z)))))))) [t0,t1] func129 (by kernel_rfl) (by kernel_rfl) h
theorem gp:Enters prog 129:=enters_of func129 (by kernel_rfl) rfl
def xD(P:Program)(a b:Value)(w:World)(R:Ending->World->Prop):Prop:=
 Cl P 118 #[a] w (Pk R) fun c w=>
 Un P .not c w fun d w=>
 Gd d false (fun k=>k b w) w fun e w=>
 Gd d false (fun k=>Cl P 118 #[e] w (Pk R) k) w fun f w=>
 Gd d false (fun k=>Un P .not f w k) w fun g w=>
 cH d (.bool true) g w fun i w=>
 If i
 (R (.returned (.tuple #[(bh []),(.int .i64 30)])) w)
 (Cl P 121 #[a] w (Pk R) fun j w=>
 Ex j 0 w fun l w=>
 Ex j 1 w fun m w=>
 Cl P 121 #[b] w (Pk R) fun n w=>
 Ex n 0 w fun o w=>
 Ex n 1 w fun p w=>
 Un P .not o w fun q w=>
 Cl P 163 #[l,m,q,p] w (Pk R) fun r w=>
 Ex r 0 w fun s w=>
 Ex r 1 w fun u w=>
 R (.returned (.tuple #[s,u])) w)
theorem Es(h:xD prog t0 t1 w R):Calls prog 130 #[t0,t1] w R:=
 dW (.sq .z (.sq (.sq .z (.cd (.sq .z .z) .z)) (.sq .z (.sq .z (.sq .z .z))))) [t0,t1] func130 (by kernel_rfl) (by kernel_rfl) h
theorem ox:Enters prog 130:=enters_of func130 (by kernel_rfl) rfl
def qe(P:Program)(a b:Value)(w:World)(R:Ending->World->Prop):Prop:=
 Al P 25 w fun c w=>
 Cl P 118 #[a] w (Pk R) fun d w=>
 Cl P 118 #[b] w (Pk R) fun e w=>
 Un P .not d w fun f w=>
 Gd f false (fun k=>k e w) w fun g w=>
 Gd f false (fun k=>Un P .not g w k) w fun i w=>
 cH f (.bool true) i w fun j w=>
 Gd j false (fun k=>k b w) w fun l w=>
 Gd j false (fun k=>Bn P .eql 9 true l (bh [48]) w k) w fun m w=>
 cH j (.bool true) m w fun n w=>
 If n
 (Bd P 25 [] w fun o w=>
 cL P 25 c o w fun w=>
 Rc P 25 c w fun p=>
 R (.returned (.tuple #[p,(.int .i64 40)])) w)
 (vt (fun q=>
 Cl P 85 #[b,(bh [48])] w (Pk R) fun r w=>
 Bn P .lss 3 true r (.int .i64 0) w fun s w=>
 If s
 (Cl P 130 #[(bh [48]),a] w (Pk R) fun u w=>
 Ex u 0 w fun v w=>
 Ex u 1 w fun x w=>
 Cl P 130 #[(bh [48]),b] w (Pk R) fun y w=>
 Ex y 0 w fun z w=>
 Ex y 1 w fun A w=>
 q v z w)
 (q a b w))
 (fun B C w=>
 Cl P 119 #[B,C] w (Pk R) fun D w=>
 Ex D 0 w fun E w=>
 Ex D 1 w fun F w=>
 Cl P 84 #[B,E] w (Pk R) fun G w=>
 Ex G 0 w fun H w=>
 Ex G 1 w fun I w=>
 Ex G 2 w fun J w=>
 Cl P 84 #[C,E] w (Pk R) fun L w=>
 Ex L 0 w fun M w=>
 Ex L 1 w fun N w=>
 Ex L 2 w fun O w=>
 Bn P .neq 46 true J (.int .i64 0) w fun S w=>
 Gd S false (fun k=>k O w) w fun T w=>
 Gd S false (fun k=>Bn P .neq 46 true T (.int .i64 0) w k) w fun U w=>
 cH S (.bool true) U w fun V w=>
 If V
 (Bd P 25 [] w fun W w=>
 cL P 25 c W w fun w=>
 Rc P 25 c w fun p=>
 R (.returned (.tuple #[p,(.int .i64 40)])) w)
 (Bd P 25 [(0,H),(1,M)] w fun X w=>
 cL P 25 c X w fun w=>
 Rc P 25 c w fun p=>
 R (.returned (.tuple #[p,(.int .i64 0)])) w)))
theorem vG(h:qe prog t0 t1 w R):Calls prog 131 #[t0,t1] w R:=
 dW (.sq .z (.sq .z (.sq .z (.sq (.sq .z (.cd (.sq .z .z) .z)) (.jn [0,1] [31,32,33,34,35,36,37,38,39,40,41,42,43] (.sq .z (.cd (.sq .z .z) .z)) (.sq .z (.sq .z (.sq .z (.sq (.sq .z (.cd (.sq .z .z) .z)) (.sq .z .z)))))))))) [t0,t1] func131 (by kernel_rfl) (by kernel_rfl) h
theorem kJ:Enters prog 131:=enters_of func131 (by kernel_rfl) rfl
def qR(P:Program)(a:Value)(w:World)(R:Ending->World->Prop):Prop:=
 uN (.slice none 0 0) a w (fun b c w d=>
 Bn P .neq 3 true c (.int .i64 0) w fun e w=>
 If e
 (Bn P .rem 3 true c (.int .i64 10) w fun f w=>
 Bn P .lss 3 true f (.int .i64 0) w fun g w=>
 If g
 (Un P .neg f w fun i w=>
 Bs P 33 1 [(0,i)] w fun j w=>
 Bt P .append #[33,33] 33 #[b,j] w fun k w=>
 Bn P .quo 3 true c (.int .i64 10) w fun l w=>
 d k l w)
 (Bs P 33 1 [(0,f)] w fun m w=>
 Bt P .append #[33,33] 33 #[b,m] w fun n w=>
 Bn P .quo 3 true c (.int .i64 10) w fun o w=>
 d n o w))
 (Bn P .lss 3 true a (.int .i64 0) w fun p w=>
 Cl P 126 #[p,b] w (Pk R) fun q w=>
 Ex q 0 w fun r w=>
 Ex q 1 w fun s w=>
 R (.returned r) w))
theorem yq(h:qR prog t0 w R):Calls prog 132 #[t0] w R:=
 dW (.sq .z (.sq .z (.sq (.sq .z (.bk (.lp [3,4] [5,9,10,11,12,13,14,15,16,17,18,19,20,21,22] (.sq (.sq .z (.cd .z .z)) (.sq (.bk (.sq .z (.sq (.sq .z (.cd .z .z)) .z))) .z))))) (.sq .z (.sq .z .z))))) [t0] func132 (by kernel_rfl) (by kernel_rfl) h
theorem qS:Enters prog 132:=enters_of func132 (by kernel_rfl) rfl
def nJ(P:Program)(a b c:Value)(w:World)(R:Ending->World->Prop):Prop:=
 Bn P .geq 3 false a b w fun d w=>
 Gd d true (fun k=>k a w) w fun e w=>
 Gd d true (fun k=>k c w) w fun f w=>
 Gd d true (fun k=>Bn P .leq 3 false e f w k) w fun g w=>
 cH d g (.bool false) w fun i w=>
 R (.returned i) w
theorem sK(h:nJ prog t0 t1 t2 w R):Calls prog 133 #[t0,t1,t2] w R:=
 dW (.sq .z (.sq .z .z)) [t0,t1,t2] func133 (by kernel_rfl) (by kernel_rfl) h
theorem bR:Enters prog 133:=enters_of func133 (by kernel_rfl) rfl
def vH(P:Program)(a:Value)(w:World)(R:Ending->World->Prop):Prop:=
 Bt P .len #[33] 3 #[a] w fun b w=>
 jt (.int .i64 0) w (fun c w d=>
 Bn P .lss 3 false c b w fun e w=>
 If e
 (Ia P 33 a c w fun f w=>
 Ld P 3 f w fun g w=>
 Bn P .neq 3 false g (.int .i64 0) w fun i w=>
 If i
 (R (.returned g) w)
 (Bn P .add 3 true c (.int .i64 1) w fun j w=>
 d j w))
 (R (.returned (.int .i64 0)) w))
theorem CW(h:vH prog t0 w R):Calls prog 134 #[t0] w R:=
 dW (.sq .z (.sq .z (.sq (.sq .z (.bk (.lp [8] [2,5,9,10,11,12,13,14,15,16] (.sq .z (.sq (.cd .z .z) (.sq (.bk (.sq .z (.sq .z (.cd (.sq .z .z) .z)))) .z)))))) (.sq .z .z)))) [t0] func134 (by kernel_rfl) (by kernel_rfl) h
theorem CX:Enters prog 134:=enters_of func134 (by kernel_rfl) rfl
def gV(P:Program)(a b:Value)(w:World)(R:Ending->World->Prop):Prop:=
 Cl P 164 #[a] w (Pk R) fun c w=>
 Cl P 164 #[b] w (Pk R) fun d w=>
 If c
 (If d
 (R (.returned (.int .i64 0)) w)
 (R (.returned (.int .i64 (-1))) w))
 (If d
 (R (.returned (.int .i64 1)) w)
 (Bn P .lss 3 false a b w fun e w=>
 If e
 (R (.returned (.int .i64 (-1))) w)
 (Bn P .gtr 3 false a b w fun f w=>
 If f
 (R (.returned (.int .i64 1)) w)
 (R (.returned (.int .i64 0)) w))))
theorem iP(h:gV prog t0 t1 w R):Calls prog 135 #[t0,t1] w R:=
 dW (.sq .z (.sq .z (.sq .z (.sq (.sq .z (.cd (.sq (.sq .z (.cd (.sq .z .z) .z)) (.sq .z .z)) .z)) (.sq (.sq .z (.cd (.sq .z .z) .z)) (.sq (.sq .z (.cd (.sq .z .z) .z)) (.sq (.sq .z (.cd (.sq .z .z) .z)) (.sq .z .z)))))))) [t0,t1] func135 (by kernel_rfl) (by kernel_rfl) h
theorem iQ:Enters prog 135:=enters_of func135 (by kernel_rfl) rfl
theorem pB:Enters prog 136:=enters_of func136 (by kernel_rfl) rfl
def uR(P:Program)(a b c:Value)(w:World)(R:Ending->World->Prop):Prop:=
 Bn P .geq 3 false a b w fun d w=>
 Gd d true (fun k=>k a w) w fun e w=>
 Gd d true (fun k=>k c w) w fun f w=>
 Gd d true (fun k=>Bn P .leq 3 false e f w k) w fun g w=>
 cH d g (.bool false) w fun i w=>
 R (.returned i) w
theorem Ad(h:uR prog t0 t1 t2 w R):Calls prog 137 #[t0,t1,t2] w R:=
 dW (.sq .z (.sq .z .z)) [t0,t1,t2] func137 (by kernel_rfl) (by kernel_rfl) h
theorem cj:Enters prog 137:=enters_of func137 (by kernel_rfl) rfl
def mN(P:Program)(a b:Value)(w:World)(R:Ending->World->Prop):Prop:=
 Bx P 25 a w fun c w=>
 Ld P 25 c w fun d w=>
 Cl P 79 #[d] w (Pk R) fun e w=>
 Un P .not e w fun f w=>
 Gd f false (fun k=>k b w) w fun g w=>
 Gd f false (fun k=>Bn P .lss 3 true g (.int .i64 0) w k) w fun i w=>
 cH f (.bool true) i w fun j w=>
 Gd j false (fun k=>k b w) w fun l w=>
 Gd j false (fun k=>Bn P .gtr 3 true l (.int .i64 30) w k) w fun m w=>
 cH j (.bool true) m w fun n w=>
 If n
 (R (.returned (.tuple #[(bh []),(bh []),(bh []),(.bool false)])) w)
 (Cl P 169 #[b] w (Pk R) fun o w=>
 Fa P 25 c 0 w fun p w=>
 Ld P 9 p w fun q w=>
 Cl P 160 #[q,o] w (Pk R) fun r w=>
 Ex r 0 w fun s w=>
 Ex r 1 w fun u w=>
 Bn P .neq 46 true u (.int .i64 0) w fun v w=>
 If v
 (R (.returned (.tuple #[(bh []),(bh []),(bh []),(.bool false)])) w)
 (Fa P 25 c 1 w fun x w=>
 Ld P 9 x w fun y w=>
 Cl P 84 #[s,y] w (Pk R) fun z w=>
 Ex z 0 w fun A w=>
 Ex z 1 w fun B w=>
 Ex z 2 w fun C w=>
 Bn P .eql 46 true C (.int .i64 0) w fun D w=>
 R (.returned (.tuple #[A,B,o,D])) w))
theorem qf(h:mN prog t0 t1 w R):Calls prog 138 #[t0,t1] w R:=
 dW (.sq .z (.sq .z (.sq (.sq .z (.cd (.sq .z .z) .z)) (.sq .z (.sq .z (.sq (.sq .z (.cd (.sq .z .z) .z)) (.sq .z (.sq .z .z)))))))) [t0,t1] func138 (by kernel_rfl) (by kernel_rfl) h
theorem qg:Enters prog 138:=enters_of func138 (by kernel_rfl) rfl
def oy(P:Program)(a:Value)(w:World)(R:Ending->World->Prop):Prop:=
 Cl P 170 #[a,(bh [45])] w (Pk R) fun b w=>
 Bn P .eql 9 true b (bh []) w fun c w=>
 Gd c false (fun k=>k b w) w fun d w=>
 Gd c false (fun k=>Bt P .len #[9] 3 #[d] w k) w fun e w=>
 Gd c false (fun k=>Bn P .gtr 3 true e (.int .i64 200) w k) w fun f w=>
 cH c (.bool true) f w fun g w=>
 Gd g false (fun k=>k b w) w fun i w=>
 Gd g false (fun k=>Cl P 171 #[i,(bh [48,49,50,51,52,53,54,55,56,57])] w (Pk R) k) w fun j w=>
 Gd g false (fun k=>Bn P .neq 9 true j (bh []) w k) w fun l w=>
 cH g (.bool true) l w fun m w=>
 If m
 (R (.returned (.bool false)) w)
 (Bn P .eql 9 true a (bh [48]) w fun n w=>
 Gd n false (fun k=>k b w) w fun o w=>
 Gd n false (fun k=>Ix P 9 o (.int .i64 0) w k) w fun p w=>
 Gd n false (fun k=>Bn P .neq 5 true p (.int .u8 48) w k) w fun q w=>
 cH n (.bool true) q w fun r w=>
 R (.returned r) w)
theorem vI(h:oy prog t0 w R):Calls prog 139 #[t0] w R:=
 dW (.sq .z (.sq .z (.sq (.sq .z (.cd (.sq .z .z) .z)) (.sq .z .z)))) [t0] func139 (by kernel_rfl) (by kernel_rfl) h
theorem gW:Enters prog 139:=enters_of func139 (by kernel_rfl) rfl
def qT(P:Program)(a:Value)(w:World)(R:Ending->World->Prop):Prop:=
 Al P 141 w fun b w=>
 Cl P 170 #[a,(bh [45])] w (Pk R) fun c w=>
 Bt P .len #[9] 3 #[c] w fun d w=>
 Bt P .len #[9] 3 #[a] w fun e w=>
 Bn P .lss 3 false d e w fun f w=>
 Bd P 141 [(0,f)] w fun g w=>
 Al P 141 w fun i w=>
 cL P 141 i g w fun w=>
 jt c w (fun j w k=>
 Bt P .len #[9] 3 #[j] w fun l w=>
 Bn P .gtr 3 true l (.int .i64 0) w fun m w=>
 If m
 (Bt P .len #[9] 3 #[j] w fun n w=>
 Bn P .sub 3 true n (.int .i64 4) w fun o w=>
 Bt P .max #[3,3] 3 #[(.int .i64 0),o] w fun p w=>
 Sc P 9 j (some p) none none w fun q w=>
 Cl P 76 #[q] w (Pk R) fun r w=>
 Ex r 0 w fun s w=>
 Ex r 1 w fun u w=>
 Fa P 141 i 1 w fun v w=>
 Ld P 139 v w fun x w=>
 Bs P 139 1 [(0,s)] w fun y w=>
 Bt P .append #[139,139] 139 #[x,y] w fun z w=>
 Fa P 141 i 1 w fun A w=>
 cL P 139 A z w fun w=>
 Sc P 9 j none (some p) none w fun B w=>
 k B w)
 (Fa P 141 i 1 w fun C w=>
 Ld P 139 C w fun D w=>
 Cl P 146 #[D] w (Pk R) fun E w=>
 Fa P 141 i 1 w fun F w=>
 cL P 139 F E w fun w=>
 Ld P 141 i w fun G w=>
 cL P 141 b G w fun w=>
 Rc P 141 b w fun H=>
 R (.returned H) w))
theorem yu(h:qT prog t0 w R):Calls prog 140 #[t0] w R:=
 dW (.sq .z (.sq .z (.sq .z (.sq (.bk (.lp [3] [5,6,7,16,17,18,19,20,21,22,23,24,25,26,27,28,29,30,31,32,33,34,35,36,37,38] (.sq (.sq .z (.cd .z .z)) (.bk (.sq .z (.sq .z (.sq .z .z))))))) (.sq .z (.sq .z .z)))))) [t0] func140 (by kernel_rfl) (by kernel_rfl) h
theorem qU:Enters prog 140:=enters_of func140 (by kernel_rfl) rfl
def fY(P:Program)(a:Value)(w:World)(R:Ending->World->Prop):Prop:=
 Bx P 139 a w fun b w=>
 R (.returned (.func (.func 172) #[] #[b])) w
theorem jC(h:fY prog t0 w R):Calls prog 141 #[t0] w R:=
 dW (.sq .z (.sq .z .z)) [t0] func141 (by kernel_rfl) (by kernel_rfl) h
theorem dF:Enters prog 141:=enters_of func141 (by kernel_rfl) rfl
def ik(P:Program)(a b:Value)(w:World)(R:Ending->World->Prop):Prop:=
 Cl P 173 #[a] w (Pk R) fun c w=>
 Nc a w fun d w=>
 Fa P 173 d 1 w fun e w=>
 Ld P 171 e w fun f w=>
 Bt P .append #[171,9] 171 #[f,b] w fun g w=>
 Nc a w fun i w=>
 Fa P 173 i 1 w fun j w=>
 cL P 171 j g w fun w=>
 Bt P .len #[9] 3 #[b] w fun k w=>
 R (.returned (.tuple #[k,.nilIface])) w
theorem l7(h:ik prog t0 t1 w R):Calls prog 142 #[t0,t1] w R:=
 dW (.sq .z (.sq .z (.sq .z (.sq .z .z)))) [t0,t1] func142 (by kernel_rfl) (by kernel_rfl) h
theorem l8:Enters prog 142:=enters_of func142 (by kernel_rfl) rfl
theorem oU:Enters prog 143:=enters_of func143 (by kernel_rfl) rfl
def kK(P:Program)(a b:Value)(w:World)(R:Ending->World->Prop):Prop:=
 Bx P 139 a w fun c w=>
 Al P 139 w fun d w=>
 Cl P 141 #[b] w (Pk R) fun e w=>
 Ha P e w (fun f g w next lv=>
 Iu (fun i=>
 Ld P 139 d w fun j w=>
 Bt P .len #[139] 3 #[j] w fun k w=>
 Bn P .gtr 3 true k (.int .i64 0) w fun l w=>
 If l
 (Bs P 139 1 [(0,(.int .i64 0))] w fun m w=>
 Ld P 139 d w fun n w=>
 Bt P .append #[139,139] 139 #[m,n] w fun o w=>
 cL P 139 d o w fun w=>
 i w)
 (i w))
 (fun w=>
 dL P 139 d w.drew fun p=>
 dL P 139 c w.drew fun q=>
 Cl P 147 #[q,g] w.drew (fun _ _=>False) fun r w=>
 cU P 139 d p w <|
 Cl P 111 #[p,r] w (fun _ _=>False) fun s w=>
 cL P 139 d s w fun w=>
 next w))
 (fun u w=>
 Ld P 139 d w fun v w=>
 Tk P u w fun w=>
 R (.returned v) w)
 (fun u w=>
 Tk P u w fun w=>
 R (.returned (.slice none 0 0)) w) []
theorem qh(h:kK prog t0 t1 w R):Calls prog 144 #[t0,t1] w R:=
 dW (.sq .z (.sq .z (.sq (.sq .z (.bk (.rf (.bk (.jn [] [12,13,14,15,16,17] (.sq .z (.cd .z .z)) (.dr (.pur false 0 (.pur false 1 (.pur true 2 (.eff 3 [0] (.eff 4 [] (.eff 5 [] .done))))))))) []))) (.sq .z .z)))) [t0,t1] func144 (by kernel_rfl) (by kernel_rfl) h
theorem qi:Enters prog 144:=enters_of func144 (by kernel_rfl) rfl
def jk(P:Program)(a b:Value)(w:World)(R:Ending->World->Prop):Prop:=
 Cl P 73 #[a,b] w (Pk R) fun c w=>
 Ex c 0 w fun d w=>
 Ex c 1 w fun e w=>
 Ex c 2 w fun f w=>
 R (.returned (.tuple #[d,f])) w
theorem nK(h:jk prog t0 t1 w R):Calls prog 145 #[t0,t1] w R:=
 dW (.sq .z (.sq .z (.sq .z .z))) [t0,t1] func145 (by kernel_rfl) (by kernel_rfl) h
theorem nL:Enters prog 145:=enters_of func145 (by kernel_rfl) rfl
def jR(P:Program)(a:Value)(w:World)(R:Ending->World->Prop):Prop:=
 jt a w (fun b w c=>
 Bt P .len #[139] 3 #[b] w fun d w=>
 Bn P .gtr 3 true d (.int .i64 0) w fun e w=>
 Gd e true (fun k=>k b w) w fun f w=>
 Gd e true (fun k=>k b w) w fun g w=>
 Gd e true (fun k=>Bt P .len #[139] 3 #[g] w k) w fun i w=>
 Gd e true (fun k=>Bn P .sub 3 true i (.int .i64 1) w k) w fun j w=>
 Gd e true (fun k=>Ia P 139 f j w k) w fun l w=>
 Gd e true (fun k=>Ld P 3 l w k) w fun m w=>
 Gd e true (fun k=>Bn P .eql 3 true m (.int .i64 0) w k) w fun n w=>
 cH e n (.bool false) w fun o w=>
 If o
 (Bt P .len #[139] 3 #[b] w fun p w=>
 Bn P .sub 3 true p (.int .i64 1) w fun q w=>
 Sc P 139 b none (some q) none w fun r w=>
 c r w)
 (R (.returned b) w))
theorem oV(h:jR prog t0 w R):Calls prog 146 #[t0] w R:=
 dW (.sq .z (.sq (.bk (.lp [0] [3,4,5,6,7,8,9,10,11,12,13,14,15,16,17,18,19] (.sq (.sq .z (.cd .z .z)) (.bk .z)))) (.sq .z .z))) [t0] func146 (by kernel_rfl) (by kernel_rfl) h
theorem dS:Enters prog 146:=enters_of func146 (by kernel_rfl) rfl
def mG(P:Program)(a b:Value)(w:World)(R:Ending->World->Prop):Prop:=
 Bx P 139 a w fun c w=>
 Bx P 3 b w fun d w=>
 Ld P 139 c w fun e w=>
 Bt P .len #[139] 3 #[e] w fun f w=>
 Cl P 150 #[f,(.int .i64 0),(.func (.func 174) #[] #[c,d])] w (Pk R) fun g w=>
 Cl P 146 #[g] w (Pk R) fun i w=>
 R (.returned i) w
theorem tE(h:mG prog t0 t1 w R):Calls prog 147 #[t0,t1] w R:=
 dW (.sq .z (.sq .z .z)) [t0,t1] func147 (by kernel_rfl) (by kernel_rfl) h
theorem mH:Enters prog 147:=enters_of func147 (by kernel_rfl) rfl
def kw(P:Program)(a b c:Value)(w:World)(R:Ending->World->Prop):Prop:=
 dL P 178 b w.drew fun d=>
 Dv P true (bn .add 3 true a (.int .i64 1)) w.drew fun e=>
 dL P 139 c w.drew fun f=>
 Cw P d #[e] w.drew (Pk R) fun g w=>
 cU P 139 c f w <|
 Cl P 114 #[g,f] w (Pk R) fun i w=>
 Dv P true (bn .gtr 3 true i (.int .i64 0)) w fun j=>
 R (.returned j) w
theorem pC(h:kw prog t0 t1 t2 w R):Calls prog 148 #[t0,t1,t2] w R:=
 dW (.sq .z (.sq (.dr (.pur false 0 (.pur true 1 (.pur true 2 (.pur false 4 (.eff 3 [4] (.eff 5 [] (.pur true 6 (.pur true 7 .done))))))))) .z)) [t0,t1,t2] func148 (by kernel_rfl) (by kernel_rfl) h
theorem pD:Enters prog 148:=enters_of func148 (by kernel_rfl) rfl
def ue(P:Program)(a b:Value)(w:World)(R:Ending->World->Prop):Prop:=
 uN (.int .i64 0) a w (fun c d w e=>
 Bn P .lss 3 false c d w fun f w=>
 If f
 (Bn P .add 3 false c d w fun g w=>
 Cv P 3 192 g w fun i w=>
 Bn P .shr 192 true i (.int .u64 1) w fun j w=>
 Cv P 192 3 j w fun k w=>
 Cw P b #[k] w (Pk R) fun l w=>
 Un P .not l w fun m w=>
 If m
 (Bn P .add 3 true k (.int .i64 1) w fun n w=>
 e n d w)
 (e c k w))
 (R (.returned c) w))
theorem A7(h:ue prog t0 t1 w R):Calls prog 149 #[t0,t1] w R:=
 dW (.sq .z (.sq .z (.sq (.bk (.lp [5,6] [7,9,10,11,12,13,14,15,16,17,18,19,20,21,22,23,24] (.sq (.sq .z (.cd .z .z)) (.bk (.sq .z (.sq .z (.cd .z .z))))))) (.sq .z .z)))) [t0,t1] func149 (by kernel_rfl) (by kernel_rfl) h
theorem A8:Enters prog 149:=enters_of func149 (by kernel_rfl) rfl
def il(P:Program)(a b c:Value)(w:World)(R:Ending->World->Prop):Prop:=
 Bn P .add 3 true a (.int .i64 1) w fun d w=>
 Ms P 139 (.int .i64 0) d w fun e w=>
 Nv b e (.int .i64 0) w (fun f g i w j=>
 Bn P .lss 3 false i a w fun l w=>
 Gd l false (fun k=>k f w) w fun m w=>
 Gd l false (fun k=>Bn P .neq 3 true m (.int .i64 0) w k) w fun n w=>
 cH l (.bool true) n w fun o w=>
 If o
 (Cw P c #[i] w (Pk R) fun p w=>
 Bn P .add 3 false p f w fun q w=>
 Bn P .lss 3 true q (.int .i64 0) w fun r w=>
 If r
 (Bn P .add 3 true q (.int .i64 10000) w fun s w=>
 Bs P 139 1 [(0,s)] w fun u w=>
 Bt P .append #[139,139] 139 #[g,u] w fun v w=>
 Bn P .add 3 true i (.int .i64 1) w fun x w=>
 j (.int .i64 (-1)) v x w)
 (Bn P .geq 3 true q (.int .i64 10000) w fun y w=>
 If y
 (Bn P .quo 3 true q (.int .i64 10000) w fun z w=>
 Bn P .rem 3 true q (.int .i64 10000) w fun A w=>
 Bs P 139 1 [(0,A)] w fun B w=>
 Bt P .append #[139,139] 139 #[g,B] w fun C w=>
 Bn P .add 3 true i (.int .i64 1) w fun D w=>
 j z C D w)
 (Bs P 139 1 [(0,q)] w fun E w=>
 Bt P .append #[139,139] 139 #[g,E] w fun F w=>
 Bn P .add 3 true i (.int .i64 1) w fun G w=>
 j (.int .i64 0) F G w)))
 (R (.returned g) w))
theorem l9(h:il prog t0 t1 t2 w R):Calls prog 150 #[t0,t1,t2] w R:=
 dW (.sq .z (.sq .z (.sq (.sq .z (.bk (.lp [1,7,8] [9,13,14,15,16,17,18,19,20,21,22,23,24,25,26,27,28,29,30,31,32,33,34,35,36,37,38,39,40] (.sq (.sq .z (.cd .z .z)) (.sq (.bk (.sq .z (.sq .z (.sq (.sq .z (.cd (.sq .z .z) (.sq .z (.cd (.sq .z .z) .z)))) .z)))) .z))))) (.sq .z .z)))) [t0,t1,t2] func150 (by kernel_rfl) (by kernel_rfl) h
theorem fI:Enters prog 150:=enters_of func150 (by kernel_rfl) rfl
def kx(P:Program)(a b c:Value)(w:World)(R:Ending->World->Prop):Prop:=
 dL P 139 b w.drew fun d=>
 dL P 139 c w.drew fun e=>
 Cl P 152 #[d,a] w.drew (Pk R) fun f w=>
 cU P 139 c e w <|
 Cl P 152 #[e,a] w (Pk R) fun g w=>
 Dv P true (bn .add 3 false f g) w fun i=>
 R (.returned i) w
theorem pE(h:kx prog t0 t1 t2 w R):Calls prog 151 #[t0,t1,t2] w R:=
 dW (.sq .z (.sq (.dr (.pur false 0 (.pur true 1 (.pur false 3 (.pur true 4 (.eff 2 [3] (.eff 5 [] (.pur true 6 (.pur true 7 .done))))))))) .z)) [t0,t1,t2] func151 (by kernel_rfl) (by kernel_rfl) h
theorem pF:Enters prog 151:=enters_of func151 (by kernel_rfl) rfl
def mI(P:Program)(a b:Value)(w:World)(R:Ending->World->Prop):Prop:=
 Bt P .len #[139] 3 #[a] w fun c w=>
 Bn P .lss 3 false b c w fun d w=>
 If d
 (Ia P 139 a b w fun e w=>
 Ld P 3 e w fun f w=>
 R (.returned f) w)
 (R (.returned (.int .i64 0)) w)
theorem tF(h:mI prog t0 t1 w R):Calls prog 152 #[t0,t1] w R:=
 dW (.sq .z (.sq (.sq .z (.cd (.sq .z .z) .z)) (.sq .z .z))) [t0,t1] func152 (by kernel_rfl) (by kernel_rfl) h
theorem gg:Enters prog 152:=enters_of func152 (by kernel_rfl) rfl
def jS(P:Program)(a b c:Value)(w:World)(R:Ending->World->Prop):Prop:=
 dL P 139 b w.drew fun d=>
 dL P 139 c w.drew fun e=>
 Cl P 152 #[d,a] w.drew (Pk R) fun f w=>
 cU P 139 c e w <|
 Cl P 152 #[e,a] w (Pk R) fun g w=>
 Dv P true (bn .sub 3 false f g) w fun i=>
 R (.returned i) w
theorem oW(h:jS prog t0 t1 t2 w R):Calls prog 153 #[t0,t1,t2] w R:=
 dW (.sq .z (.sq (.dr (.pur false 0 (.pur true 1 (.pur false 3 (.pur true 4 (.eff 2 [3] (.eff 5 [] (.pur true 6 (.pur true 7 .done))))))))) .z)) [t0,t1,t2] func153 (by kernel_rfl) (by kernel_rfl) h
theorem oX:Enters prog 153:=enters_of func153 (by kernel_rfl) rfl
def xE(P:Program)(a b:Value)(w:World)(R:Ending->World->Prop):Prop:=
 Cl P 118 #[a] w (Pk R) fun c w=>
 Un P .not c w fun d w=>
 Gd d false (fun k=>k b w) w fun e w=>
 Gd d false (fun k=>Cl P 118 #[e] w (Pk R) k) w fun f w=>
 Gd d false (fun k=>Un P .not f w k) w fun g w=>
 cH d (.bool true) g w fun i w=>
 If i
 (R (.returned (.tuple #[(bh []),(.int .i64 30)])) w)
 (Cl P 121 #[a] w (Pk R) fun j w=>
 Ex j 0 w fun l w=>
 Ex j 1 w fun m w=>
 Cl P 121 #[b] w (Pk R) fun n w=>
 Ex n 0 w fun o w=>
 Ex n 1 w fun p w=>
 Bn P .neq 4 false l o w fun q w=>
 Cl P 182 #[m,p] w (Pk R) fun r w=>
 Cl P 125 #[q,r] w (Pk R) fun s w=>
 Ex s 0 w fun u w=>
 Ex s 1 w fun v w=>
 R (.returned (.tuple #[u,v])) w)
theorem Eu(h:xE prog t0 t1 w R):Calls prog 160 #[t0,t1] w R:=
 dW (.sq .z (.sq (.sq .z (.cd (.sq .z .z) .z)) (.sq .z (.sq .z (.sq .z .z))))) [t0,t1] func160 (by kernel_rfl) (by kernel_rfl) h
theorem jl:Enters prog 160:=enters_of func160 (by kernel_rfl) rfl
def vJ(P:Program)(a:Value)(w:World)(R:Ending->World->Prop):Prop:=
 jt a w (fun b w c=>
 Bt P .len #[33] 3 #[b] w fun d w=>
 Bn P .gtr 3 true d (.int .i64 0) w fun e w=>
 Gd e true (fun k=>k b w) w fun f w=>
 Gd e true (fun k=>k b w) w fun g w=>
 Gd e true (fun k=>Bt P .len #[33] 3 #[g] w k) w fun i w=>
 Gd e true (fun k=>Bn P .sub 3 true i (.int .i64 1) w k) w fun j w=>
 Gd e true (fun k=>Ia P 33 f j w k) w fun l w=>
 Gd e true (fun k=>Ld P 3 l w k) w fun m w=>
 Gd e true (fun k=>Bn P .eql 3 true m (.int .i64 0) w k) w fun n w=>
 cH e n (.bool false) w fun o w=>
 If o
 (Bt P .len #[33] 3 #[b] w fun p w=>
 Bn P .sub 3 true p (.int .i64 1) w fun q w=>
 Sc P 33 b none (some q) none w fun r w=>
 c r w)
 (R (.returned b) w))
theorem CY(h:vJ prog t0 w R):Calls prog 161 #[t0] w R:=
 dW (.sq .z (.sq (.bk (.lp [0] [3,4,5,6,7,8,9,10,11,12,13,14,15,16,17,18,19] (.sq (.sq .z (.cd .z .z)) (.bk .z)))) (.sq .z .z))) [t0] func161 (by kernel_rfl) (by kernel_rfl) h
theorem mO:Enters prog 161:=enters_of func161 (by kernel_rfl) rfl
def xF(P:Program)(a b:Value)(w:World)(R:Ending->World->Prop):Prop:=
 Cl P 118 #[a] w (Pk R) fun c w=>
 Un P .not c w fun d w=>
 Gd d false (fun k=>k b w) w fun e w=>
 Gd d false (fun k=>Cl P 118 #[e] w (Pk R) k) w fun f w=>
 Gd d false (fun k=>Un P .not f w k) w fun g w=>
 cH d (.bool true) g w fun i w=>
 If i
 (R (.returned (.tuple #[(bh []),(.int .i64 30)])) w)
 (Cl P 121 #[a] w (Pk R) fun j w=>
 Ex j 0 w fun l w=>
 Ex j 1 w fun m w=>
 Cl P 121 #[b] w (Pk R) fun n w=>
 Ex n 0 w fun o w=>
 Ex n 1 w fun p w=>
 Cl P 163 #[l,m,o,p] w (Pk R) fun q w=>
 Ex q 0 w fun r w=>
 Ex q 1 w fun s w=>
 R (.returned (.tuple #[r,s])) w)
theorem Ev(h:xF prog t0 t1 w R):Calls prog 162 #[t0,t1] w R:=
 dW (.sq .z (.sq (.sq .z (.cd (.sq .z .z) .z)) (.sq .z (.sq .z (.sq .z .z))))) [t0,t1] func162 (by kernel_rfl) (by kernel_rfl) h
theorem xG:Enters prog 162:=enters_of func162 (by kernel_rfl) rfl
def ma(P:Program)(a b c d:Value)(w:World)(R:Ending->World->Prop):Prop:=
 vt (fun e=>
 Bn P .eql 4 false a c w fun f w=>
 If f
 (Cl P 123 #[b,d] w (Pk R) fun g w=>
 e a g w)
 (Cl P 127 #[b,d] w (Pk R) fun i w=>
 Bn P .geq 3 true i (.int .i64 0) w fun j w=>
 If j
 (Cl P 124 #[b,d] w (Pk R) fun k w=>
 e a k w)
 (Cl P 124 #[d,b] w (Pk R) fun l w=>
 e c l w)))
 (fun m n w=>
 Cl P 125 #[m,n] w (Pk R) fun o w=>
 Ex o 0 w fun p w=>
 Ex o 1 w fun q w=>
 R (.returned (.tuple #[p,q])) w)
theorem oz(h:ma prog t0 t1 t2 t3 w R):Calls prog 163 #[t0,t1,t2,t3] w R:=
 dW (.sq .z (.sq .z (.sq .z (.jn [10,11] [13,14,15,16,17,18,19,20,21,22,23,24,25,26,27,28,29] (.sq .z (.cd .z (.sq .z (.cd .z (.sq .z .z))))) (.sq .z .z))))) [t0,t1,t2,t3] func163 (by kernel_rfl) (by kernel_rfl) h
theorem xH:Enters prog 163:=enters_of func163 (by kernel_rfl) rfl
def qV(P:Program)(a:Value)(w:World)(R:Ending->World->Prop):Prop:=
 Bn P .neq 3 false a a w fun b w=>
 R (.returned b) w
theorem yv(h:qV prog t0 w R):Calls prog 164 #[t0] w R:=
 dW (.sq .z (.sq .z .z)) [t0] func164 (by kernel_rfl) (by kernel_rfl) h
theorem eY:Enters prog 164:=enters_of func164 (by kernel_rfl) rfl
def uf(P:Program)(a:Value)(w:World)(R:Ending->World->Prop):Prop:=
 uN (bh [49]) (.int .i64 0) w (fun b c w d=>
 Bn P .lss 3 false c a w fun e w=>
 If e
 (Bn P .add 9 true b (bh [48]) w fun f w=>
 Bn P .add 3 true c (.int .i64 1) w fun g w=>
 d f g w)
 (R (.returned b) w))
theorem A9(h:uf prog t0 w R):Calls prog 169 #[t0] w R:=
 dW (.sq .z (.sq .z (.sq (.sq .z (.bk (.lp [3,4] [5,6,7,8,9,10,11] (.sq (.sq .z (.cd .z .z)) (.sq (.bk .z) .z))))) (.sq .z .z)))) [t0] func169 (by kernel_rfl) (by kernel_rfl) h
theorem ug:Enters prog 169:=enters_of func169 (by kernel_rfl) rfl
theorem mb:Enters prog 170:=enters_of func170 (by kernel_rfl) rfl
def sL(P:Program)(a b:Value)(w:World)(R:Ending->World->Prop):Prop:=
 Bn P .eql 9 true a (bh []) w fun c w=>
 Gd c false (fun k=>k b w) w fun d w=>
 Gd c false (fun k=>Bn P .eql 9 true d (bh []) w k) w fun e w=>
 cH c (.bool true) e w fun f w=>
 If f
 (R (.returned a) w)
 (Bt P .len #[9] 3 #[b] w fun g w=>
 Bn P .eql 3 true g (.int .i64 1) w fun i w=>
 Gd i true (fun k=>k b w) w fun j w=>
 Gd i true (fun k=>Ix P 9 j (.int .i64 0) w k) w fun l w=>
 Gd i true (fun k=>Bn P .lss 5 true l (.int .u8 128) w k) w fun m w=>
 cH i m (.bool false) w fun n w=>
 If n
 (Dv P true (Instr.index 9 b (.int .i64 0)) w.drew fun o=>
 Dv P true (Instr.index 9 b (.int .i64 0)) w.drew fun p=>
 Cl P 189 #[a,o] w.drew (Pk R) fun q w=>
 Cl P 188 #[q,p] w (Pk R) fun r w=>
 R (.returned r) w)
 (Cl P 190 #[b] w (Pk R) fun s w=>
 Ex s 0 w fun u w=>
 Ex s 1 w fun v w=>
 Al P 218 w fun x w=>
 cL P 218 x u w fun w=>
 If v
 (Cl P 192 #[a,x] w (Pk R) fun y w=>
 Cl P 191 #[y,x] w (Pk R) fun z w=>
 R (.returned z) w)
 (Cl P 194 #[a,b] w (Pk R) fun A w=>
 Cl P 193 #[A,b] w (Pk R) fun B w=>
 R (.returned B) w)))
theorem Ae(h:sL prog t0 t1 w R):Calls prog 171 #[t0,t1] w R:=
 dW (.sq .z (.sq (.sq .z (.cd (.sq .z .z) .z)) (.sq (.sq .z (.cd (.sq (.dr (.pur true 0 (.pur true 1 (.pur true 2 (.pur true 4 (.pur true 5 (.eff 3 [] (.eff 6 [] (.pur true 7 .done))))))))) .z) .z)) (.sq (.sq .z (.sq .z (.cd (.sq .z .z) .z))) (.sq .z .z))))) [t0,t1] func171 (by kernel_rfl) (by kernel_rfl) h
theorem Af:Enters prog 171:=enters_of func171 (by kernel_rfl) rfl
def fJ(P:Program)(a b:Value)(w:World)(R:Ending->World->Prop):Prop:=
 Ld P 139 b w fun c w=>
 Bt P .len #[139] 3 #[c] w fun d w=>
 Bn P .sub 3 true d (.int .i64 1) w fun e w=>
 jt e w (fun f w g=>
 Bn P .geq 3 true f (.int .i64 0) w fun i w=>
 If i
 (Ld P 139 b w fun j w=>
 Ia P 139 j f w fun k w=>
 Ld P 3 k w fun l w=>
 Cw P a #[f,l] w (Pk R) fun m w=>
 Un P .not m w fun n w=>
 If n
 (R (.returned (.tuple #[])) w)
 (Bn P .sub 3 true f (.int .i64 1) w fun o w=>
 g o w))
 (R (.returned (.tuple #[])) w))
theorem jm(h:fJ prog t0 t1 w R):Calls prog 172 #[t0,t1] w R:=
 dW (.sq .z (.bk (.lp [3] [7,8,9,10,11,12,13,14,15,16,17,18] (.sq (.sq .z (.cd .z .z)) (.sq (.bk (.sq .z (.cd .z .z))) .z))))) [t0,t1] func172 (by kernel_rfl) (by kernel_rfl) h
theorem dC:Enters prog 172:=enters_of func172 (by kernel_rfl) rfl
def iR(P:Program)(a:Value)(w:World)(R:Ending->World->Prop):Prop:=
 Nc a w fun b w=>
 Fa P 173 b 0 w fun c w=>
 Ld P 170 c w fun d w=>
 Bn P .eql 170 true d (.pointer none) w fun e w=>
 If e
 (Cv P 170 223 a w fun f w=>
 Cl P 195 #[f] w (Pk R) fun g w=>
 Cv P 223 170 g w fun i w=>
 Nc a w fun j w=>
 Fa P 173 j 0 w fun k w=>
 cL P 170 k i w fun w=>
 R (.returned (.tuple #[])) w)
 (Nc a w fun l w=>
 Fa P 173 l 0 w fun m w=>
 Ld P 170 m w fun n w=>
 Bn P .neq 170 false n a w fun o w=>
 If o
 (False)
 (R (.returned (.tuple #[])) w))
theorem mP(h:iR prog t0 w R):Calls prog 173 #[t0] w R:=
 dW (.sq .z (.cd .z (.sq .z (.cd .z .z)))) [t0] func173 (by kernel_rfl) (by kernel_rfl) h
theorem mQ:Enters prog 173:=enters_of func173 (by kernel_rfl) rfl
def lu(P:Program)(a b c:Value)(w:World)(R:Ending->World->Prop):Prop:=
 dL P 139 b w.drew fun d=>
 dL P 3 c w.drew fun e=>
 Cl P 152 #[d,a] w.drew (Pk R) fun f w=>
 cU P 3 c e w <|
 Dv P true (bn .mul 3 false f e) w fun g=>
 R (.returned g) w
theorem rp(h:lu prog t0 t1 t2 w R):Calls prog 174 #[t0,t1,t2] w R:=
 dW (.sq .z (.sq (.dr (.pur false 0 (.pur true 1 (.pur false 3 (.eff 2 [3] (.pur true 4 (.pur true 5 .done))))))) .z)) [t0,t1,t2] func174 (by kernel_rfl) (by kernel_rfl) h
theorem rq:Enters prog 174:=enters_of func174 (by kernel_rfl) rfl
def uh(P:Program)(a b:Value)(w:World)(R:Ending->World->Prop):Prop:=
 Bt P .len #[33] 3 #[a] w fun c w=>
 Bt P .len #[33] 3 #[b] w fun d w=>
 Bn P .add 3 false c d w fun e w=>
 Ms P 33 e e w fun f w=>
 jt (.int .i64 0) w (fun g w i=>
 Bt P .len #[33] 3 #[a] w fun j w=>
 Bn P .lss 3 false g j w fun l w=>
 If l
 (uN (.int .i64 0) (.int .i64 0) w (fun m n w o=>
 Bt P .len #[33] 3 #[b] w fun p w=>
 Bn P .lss 3 false n p w fun q w=>
 Gd q false (fun k=>k m w) w fun r w=>
 Gd q false (fun k=>Bn P .gtr 3 true r (.int .i64 0) w k) w fun s w=>
 cH q (.bool true) s w fun u w=>
 If u
 (Bn P .add 3 false g n w fun v w=>
 Ia P 33 f v w fun x w=>
 Ld P 3 x w fun y w=>
 Bn P .add 3 false y m w fun z w=>
 mE (fun A=>
 Bt P .len #[33] 3 #[b] w fun B w=>
 Bn P .lss 3 false n B w fun C w=>
 If C
 (tM P 33 a g w.drew fun D=>
 dL P 3 D w.drew fun E=>
 tM P 33 b n w.drew fun F=>
 dL P 3 F w.drew fun G=>
 Dv P true (bn .mul 3 false E G) w.drew fun H=>
 Dv P true (bn .add 3 false z H) w.drew fun I=>
 A I w.drew)
 (A z w))
 (fun J w=>
 Bn P .add 3 false g n w fun L w=>
 Bn P .rem 3 true J (.int .i64 10) w fun M w=>
 Ia P 33 f L w fun N w=>
 cL P 3 N M w fun w=>
 Bn P .quo 3 true J (.int .i64 10) w fun O w=>
 Bn P .add 3 true n (.int .i64 1) w fun S w=>
 o O S w))
 (Bn P .add 3 true g (.int .i64 1) w fun T w=>
 i T w)))
 (Cl P 161 #[f] w (Pk R) fun U w=>
 R (.returned U) w))
theorem Ba(h:uh prog t0 t1 w R):Calls prog 182 #[t0,t1] w R:=
 dW (.sq .z (.sq .z (.sq (.sq .z (.bk (.lp [6] [7,8,9,16,17,18,19,20,21,22,23,24,25,26,27,28,29,30,31,32,33,34,35,36,37,38,39,40,41,42,43,44,45,46,47,48,49,50,51,52,53,54,55,56,57,58,59,60,61,62,63] (.sq (.sq .z (.cd .z .z)) (.sq (.bk (.sq .z (.sq .z (.bk (.lp [7,8] [9,22,23,24,25,26,27,28,29,30,31,32,33,34,35,36,37,38,39,40,41,42,43,44,45,46,47,48,49,50,51,52,53,54,55,56,57,58,59,60,61,62,63] (.sq (.sq .z (.cd .z .z)) (.sq (.bk (.sq .z (.jn [9] [40,41,42,43,44,45,46,47,48,49,50,51,52,53,54] (.sq .z (.cd (.dr (.pur true 0 (.pur true 1 (.pur true 2 (.pur true 3 (.pur false 4 (.pur true 5 (.pur true 6 (.pur true 7 (.pur false 8 (.pur true 9 (.pur true 10 (.pur true 11 .done))))))))))))) .z)) (.sq .z .z)))) .z))))))) .z))))) (.sq .z .z)))) [t0,t1] func182 (by kernel_rfl) (by kernel_rfl) h
theorem Bb:Enters prog 182:=enters_of func182 (by kernel_rfl) rfl
theorem qj:Enters prog 190:=enters_of func190 (by kernel_rfl) rfl
def ky(P:Program)(a b:Value)(w:World)(R:Ending->World->Prop):Prop:=
 jt a w (fun c w d=>
 Bt P .len #[9] 3 #[c] w fun e w=>
 Bn P .gtr 3 true e (.int .i64 0) w fun f w=>
 If f
 (Ix P 9 c (.int .i64 0) w fun g w=>
 Cl P 204 #[b,g] w (Pk R) fun i w=>
 Un P .not i w fun j w=>
 If j
 (R (.returned c) w)
 (Sc P 9 c (some (.int .i64 1)) none none w fun k w=>
 d k w))
 (R (.returned c) w))
theorem pG(h:ky prog t0 t1 w R):Calls prog 191 #[t0,t1] w R:=
 dW (.sq .z (.sq (.bk (.lp [0] [5,6,7,8,9,10,11,12,13,14] (.sq (.sq .z (.cd .z .z)) (.bk (.sq (.sq .z (.cd .z .z)) .z))))) (.sq .z .z))) [t0,t1] func191 (by kernel_rfl) (by kernel_rfl) h
theorem pH:Enters prog 191:=enters_of func191 (by kernel_rfl) rfl
def jT(P:Program)(a b:Value)(w:World)(R:Ending->World->Prop):Prop:=
 jt a w (fun c w d=>
 Bt P .len #[9] 3 #[c] w fun e w=>
 Bn P .gtr 3 true e (.int .i64 0) w fun f w=>
 If f
 (Bt P .len #[9] 3 #[c] w fun g w=>
 Bn P .sub 3 true g (.int .i64 1) w fun i w=>
 Ix P 9 c i w fun j w=>
 Cl P 204 #[b,j] w (Pk R) fun k w=>
 Un P .not k w fun l w=>
 If l
 (R (.returned c) w)
 (Bt P .len #[9] 3 #[c] w fun m w=>
 Bn P .sub 3 true m (.int .i64 1) w fun n w=>
 Sc P 9 c none (some n) none w fun o w=>
 d o w))
 (R (.returned c) w))
theorem oY(h:jT prog t0 t1 w R):Calls prog 192 #[t0,t1] w R:=
 dW (.sq .z (.sq (.bk (.lp [0] [5,6,7,8,9,10,11,12,13,14,15,16,17,18,19,20] (.sq (.sq .z (.cd .z .z)) (.bk (.sq (.sq .z (.cd .z .z)) .z))))) (.sq .z .z))) [t0,t1] func192 (by kernel_rfl) (by kernel_rfl) h
theorem oZ:Enters prog 192:=enters_of func192 (by kernel_rfl) rfl
theorem iT:Enters prog 204:=enters_of func204 (by kernel_rfl) rfl
end Go.Proofs.YtnkmbjedcjcccaaGreatDoor
