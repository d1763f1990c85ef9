/-
  Formulas of functions. By an AI agent.
-/
import Derived.Test.YtnkmbjedcjcccaaGreatDoorSpecA
import Derived.Test.YtnkmbjedcjcccaaGreatDoorProg
set_option linter.all false
namespace Go.Proofs.YtnkmbjedcjcccaaGreatDoor
open Tryz
open Go Go.Eng Go.Shelf
set_option maxRecDepth 100000
variable{t0 t1 t2 t3:Value}{w:World}{R:Ending->World->Prop}
theorem CZ:Enters prog 9:=enters_of func9 (by kernel_rfl) rfl
def ui(P:Program)(a b:Value)(w:World)(R:Ending->World->Prop):Prop:=
 Al P 35 w fun c w=>
 Cl P 27 #[a,(.int .i64 20)] w (Pk R) fun d w=>
 Bn P .add 3 true (.int .i64 1) d w fun e w=>
 Cl P 30 #[e,(.int .i64 20)] w (Pk R) fun f w=>
 Cl P 17 #[f] w (Pk R) fun g w=>
 Ex g 0 w fun i w=>
 Ex g 1 w fun j w=>
 Al P 28 w fun k w=>
 cL P 28 k i w fun w=>
 dL P 28 k w.drew fun l=>
 Dv P true (bn .eql 46 true j (.int .i64 0)) w.drew fun m=>
 Cl P 37 #[(.int .i64 0),b] w.drew (Pk R) fun n w=>
 cU P 28 k l w <|
 Dv P true (Instr.build 35 #[(0,l),(1,n)]) w fun o=>
 cL P 35 c o w fun w=>
 Rc P 35 c w fun p=>
 R (.returned (.tuple #[p,m])) w
theorem Bc(h:ui prog t0 t1 w R):Calls prog 10 #[t0,t1] w R:=
 dW (.sq .z (.sq .z (.sq (.dr (.pur false 0 (.pur true 1 (.pur true 4 (.pur true 5 (.eff 2 [0] (.pur true 3 (.eff 6 [] (.pur true 7 .done))))))))) .z))) [t0,t1] func10 (by kernel_rfl) (by kernel_rfl) h
theorem Be:Enters prog 10:=enters_of func10 (by kernel_rfl) rfl
def iq(P:Program)(a b:Value)(w:World)(R:Ending->World->Prop):Prop:=
 Bx P 35 a w fun c w=>
 Bx P 41 b w fun d w=>
 Al P 35 w fun e w=>
 Fa P 41 d 0 w fun f w=>
 Ld P 3 f w fun g w=>
 Cl P 27 #[g,(.int .i64 4)] w (Pk R) fun i w=>
 Bn P .eql 3 true i (.int .i64 0) w fun j w=>
 If j
 (vt (fun k=>
 gu P 35 c 0 w.drew fun l=>
 dL P 28 l w.drew fun m=>
 gu P 41 d 1 w.drew fun n=>
 dL P 39 n w.drew fun o=>
 (Cl P 21 #[o] w.drew (Pk R) fun p w=>
 cU P 28 l m w <|
 (Cl P 22 #[m,p] w (Pk R) fun q w=>
 gR q 0 fun r=>
 gR q 1 fun s=>
 Al P 28 w fun u w=>
 cU P 28 l m w <|
 cU P 39 n o w <|
 cL P 28 u r w fun w=>
 k u s w)/\
 (Al P 28 w fun v w=>
 cU P 28 l m w <|
 cU P 39 n o w <|
 Cl P 22 #[m,p] w (Pk R) fun x w=>
 gR x 0 fun y=>
 gR x 1 fun z=>
 cL P 28 v y w fun w=>
 k v z w))/\
 (Al P 28 w.drew fun A w=>
 cU P 28 l m w <|
 cU P 39 n o w <|
 Cl P 21 #[o] w (Pk R) fun B w=>
 cU P 28 l m w <|
 Cl P 22 #[m,B] w (Pk R) fun C w=>
 gR C 0 fun D=>
 gR C 1 fun E=>
 cL P 28 A D w fun w=>
 k A E w))
 (fun F G w=>
 Bn P .eql 46 true G (.int .i64 0) w fun H w=>
 If H
 (Ld P 28 F w fun I w=>
 Fa P 35 c 0 w fun J w=>
 cL P 28 J I w fun w=>
 Ld P 35 c w fun L w=>
 cL P 35 e L w fun w=>
 Rc P 35 e w fun M=>
 R (.returned (.tuple #[M,(.bool true)])) w)
 (Ld P 35 c w fun N w=>
 cL P 35 e N w fun w=>
 Rc P 35 e w fun M=>
 R (.returned (.tuple #[M,(.bool true)])) w)))
 (Fa P 35 c 2 w fun O w=>
 Ld P 3 O w fun S w=>
 gu P 35 c 1 w.drew fun T=>
 dL P 31 T w.drew fun U=>
 Dv P true (bV .len #[31] 3 #[U]) w.drew fun V=>
 gu P 35 c 2 w.drew fun W=>
 dL P 3 W w.drew fun X=>
 gu P 41 d 2 w.drew fun Y=>
 dL P 3 Y w.drew fun Z=>
 Cl P 27 #[Z,(.int .i64 6)] w.drew (Pk R) fun aa w=>
 cU P 31 T U w <|
 cU P 3 W X w <|
 Dv P true (bn .add 3 false X aa) w fun ab=>
 Dv P true (bV .min #[3,3] 3 #[V,ab]) w fun ac=>
 vt (fun k2=>
 Fa P 41 d 0 w fun ae w=>
 Ld P 3 ae w fun af w=>
 Cl P 27 #[af,(.int .i64 4)] w (Pk R) fun ag w=>
 Bn P .eql 3 true ag (.int .i64 1) w fun ai w=>
 If ai
 (Fa P 41 d 2 w fun aj w=>
 Ld P 3 aj w fun ak w=>
 Fa P 35 c 2 w fun al w=>
 Ld P 3 al w fun am w=>
 Bn P .add 3 true am (.int .i64 1) w fun an w=>
 Cl P 27 #[ak,an] w (Pk R) fun ao w=>
 Fa P 35 c 2 w fun ap w=>
 Ld P 3 ap w fun aq w=>
 k2 ao aq w)
 (k2 S ac w))
 (fun t8 t9 w=>
 K7 (fun k3=>
 gu P 35 c 0 w.drew fun ax=>
 dL P 28 ax w.drew fun ay=>
 gu P 35 c 1 w.drew fun az=>
 dL P 31 az w.drew fun aA=>
 Dv P true (Instr.sliceAt 31 aA (some t8) (some t9) none) w.drew fun aB=>
 (Cl P 24 #[ay,aB] w.drew (Pk R) fun aC w=>
 gR aC 0 fun aD=>
 gR aC 1 fun aE=>
 gR aC 2 fun aF=>
 Al P 28 w fun aG w=>
 cU P 28 ax ay w <|
 cU P 31 az aA w <|
 cL P 28 aG aD w fun w=>
 k3 aG aE aF w)/\
 (Al P 28 w.drew fun aH w=>
 cU P 28 ax ay w <|
 cU P 31 az aA w <|
 Cl P 24 #[ay,aB] w (Pk R) fun aI w=>
 gR aI 0 fun aJ=>
 gR aI 1 fun aL=>
 gR aI 2 fun aM=>
 cL P 28 aH aJ w fun w=>
 k3 aH aL aM w))
 (fun aN aO aS w=>
 Bn P .neq 46 true aS (.int .i64 0) w fun aT w=>
 If aT
 (Ld P 35 c w fun aU w=>
 cL P 35 e aU w fun w=>
 Rc P 35 e w fun M=>
 R (.returned (.tuple #[M,(.bool false)])) w)
 (Ld P 28 aN w fun aV w=>
 Fa P 35 c 0 w fun aW w=>
 cL P 28 aW aV w fun w=>
 Fa P 35 c 2 w fun aX w=>
 Ld P 3 aX w fun aY w=>
 Bt P .max #[3,3] 3 #[aY,t9] w fun aZ w=>
 Fa P 35 c 2 w fun ba w=>
 cL P 3 ba aZ w fun w=>
 Bs P 33 0 [] w fun bb w=>
 Fa P 35 c 3 w fun bc w=>
 Ld P 33 bc w fun bd w=>
 Bt P .append #[33,33] 33 #[bb,bd] w fun be w=>
 Bt P .append #[33,33] 33 #[be,aO] w fun bf w=>
 Fa P 35 c 3 w fun bg w=>
 cL P 33 bg bf w fun w=>
 Ld P 35 c w fun bi w=>
 cL P 35 e bi w fun w=>
 Rc P 35 e w fun M=>
 R (.returned (.tuple #[M,(.bool true)])) w))))
theorem ki(h:iq prog t0 t1 w R):Calls prog 11 #[t0,t1] w R:=
 dW (.sq .z (.sq (.sq .z (.cd (.jn [6,7] [17,18,19,20,21,22,23,24,25] (.dr (.pur true 0 (.pur false 1 (.pur true 2 (.pur false 3 (.alt (.eff 4 [1] (.alt (.eff 5 [] (.pur true 6 (.pur true 7 (.pur true 8 (.eff 9 [1,3] (.eff 10 [] (.pur true 11 .done))))))) (.eff 9 [1,3] (.eff 5 [] (.pur true 6 (.pur true 7 (.pur true 8 (.eff 10 [] (.pur true 11 .done))))))))) (.eff 9 [1,3] (.eff 4 [1] (.eff 5 [] (.pur true 6 (.pur true 7 (.pur true 8 (.eff 10 [] (.pur true 11 .done)))))))))))))) (.sq (.sq .z (.cd .z .z)) (.sq .z .z))) .z)) (.sq .z (.sq (.dr (.pur true 0 (.pur false 1 (.pur true 2 (.pur true 3 (.pur false 4 (.pur true 5 (.pur false 6 (.eff 7 [1,4] (.pur true 8 (.pur true 9 (.pur true 10 .done)))))))))))) (.jn [8,9] [43,44,45,46,47,48,49,50,51,52,53,54] (.sq .z (.cd (.sq .z .z) .z)) (.jn [10,11,12] [55,56,57,58,59,60,61,62,63,64,65,66] (.dr (.pur true 0 (.pur false 1 (.pur true 2 (.pur false 3 (.pur true 4 (.pur true 5 (.pur true 6 (.alt (.eff 7 [] (.pur true 8 (.pur true 9 (.pur true 10 (.pur true 11 (.eff 12 [1,3] (.eff 13 [] (.pur true 14 (.pur true 15 .done))))))))) (.eff 12 [1,3] (.eff 7 [] (.pur true 8 (.pur true 9 (.pur true 10 (.pur true 11 (.eff 13 [] (.pur true 14 (.pur true 15 .done)))))))))))))))))) (.sq (.sq .z (.cd (.sq .z .z) .z)) (.sq .z (.sq .z (.sq .z (.sq .z .z))))))))))) [t0,t1] func11 (by kernel_rfl) (by kernel_rfl) h
theorem uS:Enters prog 11:=enters_of func11 (by kernel_rfl) rfl
def xI(P:Program)(a:Value)(w:World)(R:Ending->World->Prop):Prop:=
 Bx P 28 a w fun b w=>
 Al P 28 w fun c w=>
 Fa P 28 b 0 w fun d w=>
 Ld P 25 d w fun e w=>
 Cl P 39 #[e] w (Pk R) fun f w=>
 Bd P 28 [(0,f)] w fun g w=>
 Al P 28 w fun i w=>
 cL P 28 i g w fun w=>
 jt (.int .i64 0) w (fun j w l=>
 Fa P 28 b 1 w fun m w=>
 Ld P 26 m w fun n w=>
 Bt P .len #[26] 3 #[n] w fun o w=>
 Bn P .lss 3 false j o w fun p w=>
 Gd p true (fun k=>k j w) w fun q w=>
 Gd p true (fun k=>Bn P .lss 3 true q (.int .i64 13) w k) w fun r w=>
 cH p r (.bool false) w fun s w=>
 If s
 (Fa P 28 b 1 w fun u w=>
 Ld P 26 u w fun v w=>
 Ia P 26 v j w fun x w=>
 Ld P 30 x w fun y w=>
 Al P 30 w fun z w=>
 cL P 30 z y w fun w=>
 Fa P 30 z 3 w fun A w=>
 Ld P 25 A w fun B w=>
 Cl P 39 #[B] w (Pk R) fun C w=>
 Fa P 30 z 3 w fun D w=>
 cL P 25 D C w fun w=>
 Fa P 30 z 4 w fun E w=>
 Ld P 25 E w fun F w=>
 Cl P 39 #[F] w (Pk R) fun G w=>
 Fa P 30 z 4 w fun H w=>
 cL P 25 H G w fun w=>
 Fa P 30 z 5 w fun I w=>
 Ld P 25 I w fun J w=>
 Cl P 39 #[J] w (Pk R) fun L w=>
 Fa P 30 z 5 w fun M w=>
 cL P 25 M L w fun w=>
 Fa P 30 z 9 w fun N w=>
 Ld P 25 N w fun O w=>
 Cl P 39 #[O] w (Pk R) fun S w=>
 Fa P 30 z 9 w fun T w=>
 cL P 25 T S w fun w=>
 Fa P 28 i 1 w fun U w=>
 Ld P 26 U w fun V w=>
 Ld P 30 z w fun W w=>
 Bs P 26 1 [(0,W)] w fun X w=>
 Bt P .append #[26,26] 26 #[V,X] w fun Y w=>
 Fa P 28 i 1 w fun Z w=>
 cL P 26 Z Y w fun w=>
 Bn P .add 3 true j (.int .i64 1) w fun aa w=>
 l aa w)
 (Ld P 28 i w fun ab w=>
 cL P 28 c ab w fun w=>
 Rc P 28 c w fun r0=>
 R (.returned r0) w))
theorem Ew(h:xI prog t0 w R):Calls prog 12 #[t0] w R:=
 dW (.sq .z (.sq .z (.sq (.sq .z (.bk (.lp [4] [5,10,11,12,13,14,15,16,17,18,19,20,21,22,23,24,25,26,27,28,29,30,31,32,33,34,35,36,37,38,39,40,41,42,43,44,45,46,47] (.sq (.sq .z (.cd .z .z)) (.sq (.bk (.sq .z (.sq .z (.sq .z (.sq .z (.sq .z .z)))))) .z))))) (.sq .z .z)))) [t0] func12 (by kernel_rfl) (by kernel_rfl) h
theorem xJ:Enters prog 12:=enters_of func12 (by kernel_rfl) rfl
def lP(P:Program)(a:Value)(w:World)(R:Ending->World->Prop):Prop:=
 Bx P 28 a w fun b w=>
 Fa P 28 b 0 w fun c w=>
 Ld P 25 c w fun d w=>
 Cl P 46 #[d,(.int .i64 1)] w (Pk R) fun e w=>
 Un P .not e w fun f w=>
 Gd f false (fun k=>Fa P 28 b 1 w k) w fun g w=>
 Gd f false (fun k=>Ld P 26 g w k) w fun i w=>
 Gd f false (fun k=>Bt P .len #[26] 3 #[i] w k) w fun j w=>
 Gd f false (fun k=>Bn P .gtr 3 true j (.int .i64 12) w k) w fun l w=>
 cH f (.bool true) l w fun m w=>
 If m
 (R (.returned (.bool false)) w)
 (jt (.int .i64 0) w (fun n w o=>
 Fa P 28 b 1 w fun p w=>
 Ld P 26 p w fun q w=>
 Bt P .len #[26] 3 #[q] w fun r w=>
 Bn P .lss 3 false n r w fun s w=>
 If s
 (Fa P 28 b 1 w fun u w=>
 Ld P 26 u w fun v w=>
 Ia P 26 v n w fun x w=>
 Ld P 30 x w fun y w=>
 Cl P 47 #[y] w (Pk R) fun z w=>
 Un P .not z w fun A w=>
 If A
 (R (.returned (.bool false)) w)
 (Bn P .add 3 true n (.int .i64 1) w fun B w=>
 o B w))
 (dL P 28 b w.drew fun C=>
 gu P 28 b 0 w.drew fun D=>
 dL P 25 D w.drew fun E=>
 Cl P 49 #[C] w.drew (Pk R) fun F w=>
 cU P 25 D E w <|
 Cl P 48 #[F,E] w (Pk R) fun G w=>
 Dv P true (bn .leq 3 true G (.int .i64 0)) w fun H=>
 R (.returned H) w)))
theorem o0(h:lP prog t0 w R):Calls prog 14 #[t0] w R:=
 dW (.sq .z (.sq (.sq .z (.cd (.sq .z .z) .z)) (.sq (.sq .z (.bk (.lp [3] [2,14,15,16,17,18,19,20,21,22,23,24,25,26,27] (.sq (.sq .z (.cd .z .z)) (.sq (.bk (.sq .z (.cd (.sq .z .z) .z))) .z))))) (.sq (.dr (.pur false 0 (.pur true 2 (.pur false 3 (.eff 1 [3] (.eff 4 [] (.pur true 5 (.pur true 6 .done)))))))) .z)))) [t0] func14 (by kernel_rfl) (by kernel_rfl) h
theorem dz:Enters prog 14:=enters_of func14 (by kernel_rfl) rfl
def mR(P:Program)(a b:Value)(w:World)(R:Ending->World->Prop):Prop:=
 Bx P 28 a w fun c w=>
 Bx P 28 b w fun d w=>
 Fa P 28 c 0 w fun e w=>
 Ld P 25 e w fun f w=>
 Fa P 28 d 0 w fun g w=>
 Ld P 25 g w fun i w=>
 Bn P .eql 25 false f i w fun j w=>
 Gd j true (fun k=>Fa P 28 c 1 w k) w fun l w=>
 Gd j true (fun k=>Ld P 26 l w k) w fun m w=>
 Gd j true (fun k=>Fa P 28 d 1 w k) w fun n w=>
 Gd j true (fun k=>Ld P 26 n w k) w fun o w=>
 Gd j true (fun k=>Cl P 50 #[m,o] w (Pk R) k) w fun p w=>
 cH j p (.bool false) w fun q w=>
 R (.returned q) w
theorem qk(h:mR prog t0 t1 w R):Calls prog 15 #[t0,t1] w R:=
 dW (.sq .z (.sq .z .z)) [t0,t1] func15 (by kernel_rfl) (by kernel_rfl) h
theorem qn:Enters prog 15:=enters_of func15 (by kernel_rfl) rfl
def mS(P:Program)(a b:Value)(w:World)(R:Ending->World->Prop):Prop:=
 Bx P 28 a w fun c w=>
 Bx P 28 b w fun d w=>
 Fa P 28 c 0 w fun e w=>
 Ld P 25 e w fun f w=>
 Fa P 28 d 0 w fun g w=>
 Ld P 25 g w fun i w=>
 Bn P .neq 25 false f i w fun j w=>
 Gd j false (fun k=>Fa P 28 c 1 w k) w fun l w=>
 Gd j false (fun k=>Ld P 26 l w k) w fun m w=>
 Gd j false (fun k=>Bt P .len #[26] 3 #[m] w k) w fun n w=>
 Gd j false (fun k=>Fa P 28 d 1 w k) w fun o w=>
 Gd j false (fun k=>Ld P 26 o w k) w fun p w=>
 Gd j false (fun k=>Bt P .len #[26] 3 #[p] w k) w fun q w=>
 Gd j false (fun k=>Bn P .neq 3 false n q w k) w fun r w=>
 cH j (.bool true) r w fun s w=>
 If s
 (R (.returned (.bool false)) w)
 (jt (.int .i64 0) w (fun u w v=>
 Fa P 28 c 1 w fun x w=>
 Ld P 26 x w fun y w=>
 Bt P .len #[26] 3 #[y] w fun z w=>
 Bn P .lss 3 false u z w fun A w=>
 If A
 (gu P 28 c 1 w.drew fun B=>
 dL P 26 B w.drew fun C=>
 tM P 26 C u w.drew fun D=>
 dL P 30 D w.drew fun E=>
 gu P 28 d 1 w.drew fun F=>
 dL P 26 F w.drew fun G=>
 tM P 26 G u w.drew fun H=>
 dL P 30 H w.drew fun I=>
 Dv P false (bn .neq 30 false E I) w.drew fun J=>
 If J
 (R (.returned (.bool false)) w.drew)
 (Bn P .add 3 true u (.int .i64 1) w.drew fun L w=>
 v L w))
 (R (.returned (.bool true)) w)))
theorem qo(h:mS prog t0 t1 w R):Calls prog 16 #[t0,t1] w R:=
 dW (.sq .z (.sq (.sq .z (.cd (.sq .z .z) .z)) (.sq (.sq .z (.bk (.lp [5] [4,20,21,22,23,24,25,26,27,28,29,30,31,32,33,34,35,36,37] (.sq (.sq .z (.cd .z .z)) (.sq (.bk (.sq (.dr (.pur true 0 (.pur false 1 (.pur true 2 (.pur true 3 (.pur false 4 (.pur true 5 (.pur false 6 (.pur true 7 (.pur true 8 (.pur false 9 (.pur false 10 .done)))))))))))) (.cd (.sq .z .z) .z))) .z))))) (.sq .z .z)))) [t0,t1] func16 (by kernel_rfl) (by kernel_rfl) h
theorem mT:Enters prog 16:=enters_of func16 (by kernel_rfl) rfl
def vK(P:Program)(a:Value)(w:World)(R:Ending->World->Prop):Prop:=
 Bx P 25 a w fun b w=>
 Al P 28 w fun c w=>
 Ld P 25 b w fun d w=>
 Bd P 28 [(0,d)] w fun e w=>
 Bd P 93 [(0,e)] w fun f w=>
 Bx P 93 f w fun g w=>
 Cl P 51 #[g] w (Pk R) fun i w=>
 Ex i 0 w fun j w=>
 Ex i 1 w fun k w=>
 cL P 28 c j w fun w=>
 Rc P 28 c w fun l=>
 R (.returned (.tuple #[l,k])) w
theorem C0(h:vK prog t0 w R):Calls prog 17 #[t0] w R:=
 dW (.sq .z (.sq .z .z)) [t0] func17 (by kernel_rfl) (by kernel_rfl) h
theorem mU:Enters prog 17:=enters_of func17 (by kernel_rfl) rfl
def qp(P:Program)(a:Value)(w:World)(R:Ending->World->Prop):Prop:=
 Bx P 25 a w fun b w=>
 Al P 28 w fun c w=>
 Ld P 25 b w fun d w=>
 Bd P 28 [(0,d)] w fun e w=>
 Al P 28 w fun f w=>
 cL P 28 f e w fun w=>
 Ld P 28 f w fun g w=>
 Cl P 14 #[g] w (Pk R) fun i w=>
 Un P .not i w fun j w=>
 If j
 (Bd P 28 [] w fun k w=>
 cL P 28 c k w fun w=>
 Rc P 28 c w fun l=>
 R (.returned (.tuple #[l,(.int .i64 280)])) w)
 (Ld P 28 f w fun m w=>
 cL P 28 c m w fun w=>
 Rc P 28 c w fun l=>
 R (.returned (.tuple #[l,(.int .i64 0)])) w)
theorem vL(h:qp prog t0 w R):Calls prog 18 #[t0] w R:=
 dW (.sq .z (.sq .z (.sq (.sq .z (.cd (.sq .z .z) .z)) (.sq .z .z)))) [t0] func18 (by kernel_rfl) (by kernel_rfl) h
theorem C1:Enters prog 18:=enters_of func18 (by kernel_rfl) rfl
def qr(P:Program)(a:Value)(w:World)(R:Ending->World->Prop):Prop:=
 Bx P 28 a w fun b w=>
 Al P 25 w fun c w=>
 Ld P 28 b w fun d w=>
 Cl P 13 #[d] w (Pk R) fun e w=>
 Un P .not e w fun f w=>
 If f
 (Bd P 25 [] w fun g w=>
 cL P 25 c g w fun w=>
 Rc P 25 c w fun i=>
 R (.returned (.tuple #[i,(.int .i64 280)])) w)
 (gu P 28 b 0 w.drew fun j=>
 dL P 25 j w.drew fun k=>
 dL P 28 b w.drew fun l=>
 Cl P 45 #[l] w.drew (Pk R) fun m w=>
 cU P 25 j k w <|
 Cl P 31 #[k,m] w (Pk R) fun n w=>
 gR n 0 fun o=>
 gR n 1 fun p=>
 Cl P 52 #[o,p] w (Pk R) fun q w=>
 cL P 25 c q w fun w=>
 Rc P 25 c w fun i=>
 R (.returned (.tuple #[i,(.int .i64 0)])) w)
theorem vM(h:qr prog t0 w R):Calls prog 19 #[t0] w R:=
 dW (.sq .z (.sq (.sq .z (.cd (.sq .z .z) .z)) (.sq (.dr (.pur true 0 (.pur false 1 (.pur false 2 (.eff 3 [1] (.eff 4 [] (.pur true 5 (.pur true 6 (.eff 7 [] (.eff 8 [] (.pur true 9 .done))))))))))) .z))) [t0] func19 (by kernel_rfl) (by kernel_rfl) h
theorem vN:Enters prog 19:=enters_of func19 (by kernel_rfl) rfl
def qt(P:Program)(a:Value)(w:World)(R:Ending->World->Prop):Prop:=
 Bx P 28 a w fun b w=>
 Al P 25 w fun c w=>
 Ld P 28 b w fun d w=>
 Cl P 14 #[d] w (Pk R) fun e w=>
 Un P .not e w fun f w=>
 If f
 (Bd P 25 [] w fun g w=>
 cL P 25 c g w fun w=>
 Rc P 25 c w fun i=>
 R (.returned (.tuple #[i,(.int .i64 280)])) w)
 (gu P 28 b 0 w.drew fun j=>
 dL P 25 j w.drew fun k=>
 dL P 28 b w.drew fun l=>
 Cl P 49 #[l] w.drew (Pk R) fun m w=>
 cU P 25 j k w <|
 Cl P 53 #[k,m] w (Pk R) fun n w=>
 cL P 25 c n w fun w=>
 Rc P 25 c w fun i=>
 R (.returned (.tuple #[i,(.int .i64 0)])) w)
theorem vO(h:qt prog t0 w R):Calls prog 20 #[t0] w R:=
 dW (.sq .z (.sq (.sq .z (.cd (.sq .z .z) .z)) (.sq (.dr (.pur true 0 (.pur false 1 (.pur false 2 (.eff 3 [1] (.eff 4 [] (.eff 5 [] (.pur true 6 .done)))))))) .z))) [t0] func20 (by kernel_rfl) (by kernel_rfl) h
theorem C2:Enters prog 20:=enters_of func20 (by kernel_rfl) rfl
def uj(P:Program)(a:Value)(w:World)(R:Ending->World->Prop):Prop:=
 Bx P 39 a w fun b w=>
 Al P 30 w fun c w=>
 mE (fun d=>
 Dv P true (Instr.indexAt 39 b (.int .i64 0)) w.drew fun e=>
 dL P 3 e w.drew fun f=>
 Dv P true (Instr.indexAt 39 b (.int .i64 0)) w.drew fun g=>
 dL P 3 g w.drew fun i=>
 Dv P true (bn .quo 3 true i (.int .i64 2)) w.drew fun j=>
 Dv P true (Instr.indexAt 39 b (.int .i64 1)) w.drew fun k=>
 dL P 3 k w.drew fun l=>
 (Cl P 54 #[f,(.int .i64 2)] w.drew (Pk R) fun m w=>
 cU P 3 g i w <|
 cU P 3 k l w <|
 (Cl P 54 #[j,(.int .i64 2)] w (Pk R) fun n w=>
 cU P 3 k l w <|
 (Cl P 54 #[l,(.int .i64 40)] w (Pk R) fun o w=>
 Dv P true (Instr.build 30 #[(0,m),(1,n),(2,o),(6,(.int .i64 (-1)))]) w fun p=>
 Al P 30 w fun q w=>
 cU P 3 e f w <|
 cU P 3 g i w <|
 cU P 3 k l w <|
 cL P 30 q p w fun w=>
 d q w)/\
 (Al P 30 w fun r w=>
 cU P 3 e f w <|
 cU P 3 g i w <|
 cU P 3 k l w <|
 Cl P 54 #[l,(.int .i64 40)] w (Pk R) fun s w=>
 Dv P true (Instr.build 30 #[(0,m),(1,n),(2,s),(6,(.int .i64 (-1)))]) w fun u=>
 cL P 30 r u w fun w=>
 d r w))/\
 (Al P 30 w fun v w=>
 cU P 3 e f w <|
 cU P 3 g i w <|
 cU P 3 k l w <|
 Cl P 54 #[j,(.int .i64 2)] w (Pk R) fun x w=>
 cU P 3 k l w <|
 Cl P 54 #[l,(.int .i64 40)] w (Pk R) fun y w=>
 Dv P true (Instr.build 30 #[(0,m),(1,x),(2,y),(6,(.int .i64 (-1)))]) w fun z=>
 cL P 30 v z w fun w=>
 d v w))/\
 (Al P 30 w.drew fun A w=>
 cU P 3 e f w <|
 cU P 3 g i w <|
 cU P 3 k l w <|
 Cl P 54 #[f,(.int .i64 2)] w (Pk R) fun B w=>
 cU P 3 g i w <|
 cU P 3 k l w <|
 Cl P 54 #[j,(.int .i64 2)] w (Pk R) fun C w=>
 cU P 3 k l w <|
 Cl P 54 #[l,(.int .i64 40)] w (Pk R) fun D w=>
 Dv P true (Instr.build 30 #[(0,B),(1,C),(2,D),(6,(.int .i64 (-1)))]) w fun E=>
 cL P 30 A E w fun w=>
 d A w))
 (fun F w=>
 Ia P 39 b (.int .i64 2) w fun G w=>
 Ld P 3 G w fun H w=>
 Cl P 54 #[H,(.int .i64 3)] w (Pk R) fun I w=>
 Bn P .add 3 true (.int .i64 2) I w fun J w=>
 Cl P 55 #[(.int .i64 1),J] w (Pk R) fun L w=>
 Fa P 30 F 3 w fun M w=>
 cL P 25 M L w fun w=>
 Bs P 33 6 [(0,(.int .i64 2)),(1,(.int .i64 3)),(2,(.int .i64 4)),(3,(.int .i64 5)),(4,(.int .i64 10)),(5,(.int .i64 20))] w fun N w=>
 Ia P 39 b (.int .i64 3) w fun O w=>
 Ld P 3 O w fun S w=>
 Cl P 54 #[S,(.int .i64 6)] w (Pk R) fun T w=>
 Ia P 33 N T w fun U w=>
 Ld P 3 U w fun V w=>
 Cl P 55 #[(.int .i64 1),V] w (Pk R) fun W w=>
 Fa P 30 F 4 w fun X w=>
 cL P 25 X W w fun w=>
 Ia P 39 b (.int .i64 4) w fun Y w=>
 Ld P 3 Y w fun Z w=>
 Bn P .mul 3 true (.int .i64 2) J w fun aa w=>
 Bn P .add 3 true aa (.int .i64 1) w fun ab w=>
 Cl P 54 #[Z,ab] w (Pk R) fun ac w=>
 Cl P 55 #[ac,(.int .i64 2)] w (Pk R) fun ad w=>
 Fa P 30 F 5 w fun ae w=>
 cL P 25 ae ad w fun w=>
 Ia P 39 b (.int .i64 5) w fun af w=>
 Ld P 3 af w fun ag w=>
 Cl P 54 #[ag,(.int .i64 6)] w (Pk R) fun ai w=>
 Bn P .eql 3 true ai (.int .i64 0) w fun aj w=>
 If aj
 (Ia P 39 b (.int .i64 5) w fun ak w=>
 Ld P 3 ak w fun al w=>
 Bn P .quo 3 true al (.int .i64 6) w fun am w=>
 Cl P 54 #[am,(.int .i64 12)] w (Pk R) fun an w=>
 Fa P 30 F 6 w fun ao w=>
 cL P 3 ao an w fun w=>
 Ld P 30 F w fun ap w=>
 cL P 30 c ap w fun w=>
 Rc P 30 c w fun r0=>
 R (.returned r0) w)
 (Ld P 30 F w fun ar w=>
 cL P 30 c ar w fun w=>
 Rc P 30 c w fun r0=>
 R (.returned r0) w))
theorem Bf(h:uj prog t0 w R):Calls prog 21 #[t0] w R:=
 dW (.sq .z (.jn [3] [5,6,7,8,9,10,11,12,13,14,15] (.dr (.pur true 0 (.pur false 1 (.pur true 3 (.pur false 4 (.pur true 5 (.pur true 7 (.pur false 8 (.alt (.eff 2 [4,8] (.alt (.eff 6 [8] (.alt (.eff 9 [] (.pur true 10 (.eff 11 [1,4,8] (.eff 12 [] .done)))) (.eff 11 [1,4,8] (.eff 9 [] (.pur true 10 (.eff 12 [] .done)))))) (.eff 11 [1,4,8] (.eff 6 [8] (.eff 9 [] (.pur true 10 (.eff 12 [] .done))))))) (.eff 11 [1,4,8] (.eff 2 [4,8] (.eff 6 [8] (.eff 9 [] (.pur true 10 (.eff 12 [] .done))))))))))))))) (.sq .z (.sq .z (.sq .z (.sq .z (.sq (.sq .z (.cd .z .z)) (.sq .z .z)))))))) [t0] func21 (by kernel_rfl) (by kernel_rfl) h
theorem jU:Enters prog 21:=enters_of func21 (by kernel_rfl) rfl
def lC(P:Program)(a b:Value)(w:World)(R:Ending->World->Prop):Prop:=
 Bx P 28 a w fun d w=>
 Bx P 30 b w fun e w=>
 Al P 28 w fun f w=>
 Ld P 28 d w fun g w=>
 Cl P 13 #[g] w (Pk R) fun i w=>
 Un P .not i w fun j w=>
 If j
 (Bd P 28 [] w fun k w=>
 cL P 28 f k w fun w=>
 Rc P 28 f w fun l=>
 R (.returned (.tuple #[l,(.int .i64 280)])) w)
 (Ld P 28 d w fun m w=>
 Cl P 56 #[m] w (Pk R) fun n w=>
 Cl P 57 #[n] w (Pk R) fun o w=>
 Ha P o w (fun p q w next lv=>
 gu P 30 e 6 w.drew fun r=>
 dL P 3 r w.drew fun s=>
 Dl q fun u=>
 gu P 30 u 7 w.drew fun v=>
 dL P 3 v w.drew fun x=>
 Dv P true (bV .max #[3,3] 3 #[s,x]) w.drew fun y=>
 gu P 30 e 6 w.drew fun z=>
 cL P 3 z y w.drew fun w=>
 next w)
 (fun A w=>
 gu P 30 e 6 w.drew fun B=>
 dL P 3 B w.drew fun C=>
 Dv P false (Instr.loadAt 25 (.pointer (some ⟨0,0,none⟩))) w.drew fun D=>
 gu P 30 e 4 w.drew fun E=>
 dL P 25 E w.drew fun F=>
 Dv P false (Instr.loadAt 25 (.pointer (some ⟨0,0,none⟩))) w.drew fun G=>
 Dv P false (bn .eql 25 false F G) w.drew fun H=>
 gu P 30 e 7 w.drew fun I=>
 cL P 3 I C w.drew fun w=>
 Ke P (Instr.loadAt 25 (.pointer (some ⟨0,0,none⟩))) D w <|
 Ke P (Instr.loadAt 25 (.pointer (some ⟨0,0,none⟩))) G w <|
 Ke P (bn .eql 25 false F G) H w <|
 gu P 30 e 8 w fun J=>
 cL P 3 J (.int .i64 0) w fun w=>
 Ke P (Instr.loadAt 25 (.pointer (some ⟨0,0,none⟩))) D w <|
 Ke P (Instr.loadAt 25 (.pointer (some ⟨0,0,none⟩))) G w <|
 Ke P (bn .eql 25 false F G) H w <|
 gu P 30 e 9 w fun L=>
 cL P 25 L D w fun w=>
 Ke P (Instr.loadAt 25 (.pointer (some ⟨0,0,none⟩))) G w <|
 Ke P (bn .eql 25 false F G) H w <|
 gu P 30 e 10 w fun M=>
 cL P 4 M H w fun w=>
 Dl n fun N=>
 gu P 93 N 0 w.drew fun O=>
 gu P 28 O 1 w.drew fun S=>
 dL P 26 S w.drew fun T=>
 dL P 30 e w.drew fun U=>
 Bs P 26 1 [(0,U)] w.drew fun V w=>
 cU P 26 S T w <|
 Bt P .append #[26,26] 26 #[T,V] w fun W w=>
 Dl n fun X=>
 gu P 93 X 0 w fun Y=>
 gu P 28 Y 1 w fun Z=>
 cL P 26 Z W w fun w=>
 Cl P 51 #[n] w (fun c w=>Tk P A w fun w=>R (.panicked c) w) fun aa w=>
 Ex aa 0 w fun ab w=>
 Ex aa 1 w fun ac w=>
 cL P 28 f ab w fun w=>
 Tk P A w fun w=>
 Rc P 28 f w fun l=>
 R (.returned (.tuple #[l,ac])) w)
 (fun A w=>
 Tk P A w fun w=>
 Rc P 28 f w fun l=>
 R (.returned (.tuple #[l,(.int .i64 0)])) w) [])
theorem pJ(h:lC prog t0 t1 w R):Calls prog 22 #[t0,t1] w R:=
 dW (.sq .z (.sq (.sq .z (.cd (.sq .z .z) .z)) (.sq .z (.sq (.sq .z (.bk (.rf (.bk (.dr (.pur true 0 (.pur false 1 (.pur true 2 (.pur true 3 (.pur true 4 (.pur false 5 (.pur true 6 (.pur true 7 (.eff 8 [] .done))))))))))) []))) (.sq (.dr (.pur true 0 (.pur false 1 (.pur false 2 (.pur true 3 (.pur false 4 (.pur false 5 (.pur false 6 (.pur true 7 (.eff 8 [2,5,6] (.pur true 9 (.eff 10 [2,5,6] (.pur true 11 (.eff 12 [5,6] (.pur true 13 (.eff 14 [] .done)))))))))))))))) (.sq (.dr (.pur true 0 (.pur true 1 (.pur true 2 (.pur true 3 (.pur true 4 (.pur false 5 (.pur false 6 (.eff 7 [5] (.eff 8 [] (.pur true 9 (.pur true 10 (.pur true 11 (.eff 12 [] .done)))))))))))))) (.sq .z .z))))))) [t0,t1] func22 (by kernel_rfl) (by kernel_rfl) h
theorem dT:Enters prog 22:=enters_of func22 (by kernel_rfl) rfl
def lD(P:Program)(a b:Value)(w:World)(R:Ending->World->Prop):Prop:=
 Bx P 28 a w fun c w=>
 Bx P 30 b w fun d w=>
 Al P 28 w fun e w=>
 Ld P 28 c w fun f w=>
 Cl P 14 #[f] w (Pk R) fun g w=>
 Un P .not g w fun i w=>
 If i
 (Bd P 28 [] w fun j w=>
 cL P 28 e j w fun w=>
 Rc P 28 e w fun k=>
 R (.returned (.tuple #[k,(.int .i64 280)])) w)
 (mE (fun l=>
 gu P 30 d 0 w.drew fun m=>
 dL P 3 m w.drew fun n=>
 gu P 30 d 1 w.drew fun o=>
 dL P 3 o w.drew fun p=>
 gu P 30 d 2 w.drew fun q=>
 dL P 3 q w.drew fun r=>
 gu P 30 d 3 w.drew fun s=>
 dL P 25 s w.drew fun u=>
 gu P 30 d 4 w.drew fun v=>
 dL P 25 v w.drew fun x=>
 gu P 30 d 5 w.drew fun y=>
 dL P 25 y w.drew fun z=>
 gu P 30 d 6 w.drew fun A=>
 dL P 3 A w.drew fun B=>
 (Cl P 55 #[(.int .i64 1),(.int .i64 1)] w.drew (Pk R) fun C w=>
 cU P 3 m n w <|
 cU P 3 o p w <|
 cU P 3 q r w <|
 cU P 25 s u w <|
 cU P 25 v x w <|
 cU P 25 y z w <|
 cU P 3 A B w <|
 Dv P true (Instr.build 30 #[(0,n),(1,p),(2,r),(3,u),(4,x),(5,z),(6,B),(9,C)]) w fun D=>
 Al P 30 w fun E w=>
 cU P 3 m n w <|
 cU P 3 o p w <|
 cU P 3 q r w <|
 cU P 25 s u w <|
 cU P 25 v x w <|
 cU P 25 y z w <|
 cU P 3 A B w <|
 cL P 30 E D w fun w=>
 l E w)/\
 (Al P 30 w.drew fun F w=>
 cU P 3 m n w <|
 cU P 3 o p w <|
 cU P 3 q r w <|
 cU P 25 s u w <|
 cU P 25 v x w <|
 cU P 25 y z w <|
 cU P 3 A B w <|
 Cl P 55 #[(.int .i64 1),(.int .i64 1)] w (Pk R) fun G w=>
 cU P 3 m n w <|
 cU P 3 o p w <|
 cU P 3 q r w <|
 cU P 25 s u w <|
 cU P 25 v x w <|
 cU P 25 y z w <|
 cU P 3 A B w <|
 Dv P true (Instr.build 30 #[(0,n),(1,p),(2,r),(3,u),(4,x),(5,z),(6,B),(9,G)]) w fun H=>
 cL P 30 F H w fun w=>
 l F w))
 (fun I w=>
 jt (.int .i64 0) w (fun J w L=>
 Fa P 28 c 1 w fun M w=>
 Ld P 26 M w fun N w=>
 Bt P .len #[26] 3 #[N] w fun O w=>
 Bn P .lss 3 false J O w fun S w=>
 If S
 (gu P 30 I 6 w.drew fun T=>
 dL P 3 T w.drew fun U=>
 gu P 28 c 1 w.drew fun V=>
 dL P 26 V w.drew fun W=>
 tM P 26 W J w.drew fun X=>
 gu P 30 X 7 w.drew fun Y=>
 dL P 3 Y w.drew fun Z=>
 Dv P true (bV .max #[3,3] 3 #[U,Z]) w.drew fun aa=>
 gu P 30 I 6 w.drew fun ab=>
 cL P 3 ab aa w.drew fun w=>
 Bn P .add 3 true J (.int .i64 1) w fun ac w=>
 L ac w)
 (Fa P 30 I 6 w fun ad w=>
 Ld P 3 ad w fun ae w=>
 Fa P 30 I 7 w fun af w=>
 cL P 3 af ae w fun w=>
 gu P 30 I 4 w.drew fun ag=>
 dL P 25 ag w.drew fun ai=>
 Cl P 55 #[(.int .i64 1),(.int .i64 1)] w.drew (Pk R) fun aj w=>
 cU P 25 ag ai w <|
 Dv P false (bn .eql 25 false ai aj) w fun ak=>
 gu P 30 I 10 w fun al=>
 cL P 4 al ak w fun w=>
 mE (fun k3=>
 gu P 28 c 0 w.drew fun an=>
 dL P 25 an w.drew fun ao=>
 gu P 28 c 1 w.drew fun ap=>
 dL P 26 ap w.drew fun aq=>
 dL P 30 I w.drew fun ar=>
 (Bs P 26 0 [] w.drew fun au w=>
 cU P 25 an ao w <|
 cU P 26 ap aq w <|
 cU P 30 I ar w <|
 (Bt P .append #[26,26] 26 #[au,aq] w fun av w=>
 cU P 25 an ao w <|
 cU P 30 I ar w <|
 (Bs P 26 1 [(0,ar)] w fun ax w=>
 cU P 25 an ao w <|
 cU P 26 ap aq w <|
 (Bt P .append #[26,26] 26 #[av,ax] w fun ay w=>
 cU P 25 an ao w <|
 Dv P true (Instr.build 28 #[(0,ao),(1,ay)]) w fun az=>
 Al P 28 w fun t8 w=>
 cU P 25 an ao w <|
 cU P 26 ap aq w <|
 cU P 30 I ar w <|
 cL P 28 t8 az w fun w=>
 k3 t8 w)/\
 (Al P 28 w fun aB w=>
 cU P 25 an ao w <|
 cU P 26 ap aq w <|
 cU P 30 I ar w <|
 Bt P .append #[26,26] 26 #[av,ax] w fun aC w=>
 cU P 25 an ao w <|
 Dv P true (Instr.build 28 #[(0,ao),(1,aC)]) w fun aD=>
 cL P 28 aB aD w fun w=>
 k3 aB w))/\
 (Al P 28 w fun aE w=>
 cU P 25 an ao w <|
 cU P 26 ap aq w <|
 cU P 30 I ar w <|
 Bs P 26 1 [(0,ar)] w fun aF w=>
 cU P 25 an ao w <|
 cU P 26 ap aq w <|
 Bt P .append #[26,26] 26 #[av,aF] w fun aG w=>
 cU P 25 an ao w <|
 Dv P true (Instr.build 28 #[(0,ao),(1,aG)]) w fun aH=>
 cL P 28 aE aH w fun w=>
 k3 aE w))/\
 ((Bs P 26 1 [(0,ar)] w fun aI w=>
 cU P 25 an ao w <|
 cU P 26 ap aq w <|
 (Bt P .append #[26,26] 26 #[au,aq] w fun aJ w=>
 cU P 25 an ao w <|
 cU P 30 I ar w <|
 (Bt P .append #[26,26] 26 #[aJ,aI] w fun aL w=>
 cU P 25 an ao w <|
 Dv P true (Instr.build 28 #[(0,ao),(1,aL)]) w fun aM=>
 Al P 28 w fun aN w=>
 cU P 25 an ao w <|
 cU P 26 ap aq w <|
 cU P 30 I ar w <|
 cL P 28 aN aM w fun w=>
 k3 aN w)/\
 (Al P 28 w fun aO w=>
 cU P 25 an ao w <|
 cU P 26 ap aq w <|
 cU P 30 I ar w <|
 Bt P .append #[26,26] 26 #[aJ,aI] w fun aS w=>
 cU P 25 an ao w <|
 Dv P true (Instr.build 28 #[(0,ao),(1,aS)]) w fun aT=>
 cL P 28 aO aT w fun w=>
 k3 aO w))/\
 (Al P 28 w fun aU w=>
 cU P 25 an ao w <|
 cU P 26 ap aq w <|
 cU P 30 I ar w <|
 Bt P .append #[26,26] 26 #[au,aq] w fun aV w=>
 cU P 25 an ao w <|
 cU P 30 I ar w <|
 Bt P .append #[26,26] 26 #[aV,aI] w fun aW w=>
 cU P 25 an ao w <|
 Dv P true (Instr.build 28 #[(0,ao),(1,aW)]) w fun aX=>
 cL P 28 aU aX w fun w=>
 k3 aU w))/\
 (Al P 28 w fun aY w=>
 cU P 25 an ao w <|
 cU P 26 ap aq w <|
 cU P 30 I ar w <|
 (Bt P .append #[26,26] 26 #[au,aq] w fun aZ w=>
 cU P 25 an ao w <|
 cU P 30 I ar w <|
 Bs P 26 1 [(0,ar)] w fun ba w=>
 cU P 25 an ao w <|
 cU P 26 ap aq w <|
 Bt P .append #[26,26] 26 #[aZ,ba] w fun bb w=>
 cU P 25 an ao w <|
 Dv P true (Instr.build 28 #[(0,ao),(1,bb)]) w fun bc=>
 cL P 28 aY bc w fun w=>
 k3 aY w)/\
 (Bs P 26 1 [(0,ar)] w fun bd w=>
 cU P 25 an ao w <|
 cU P 26 ap aq w <|
 Bt P .append #[26,26] 26 #[au,aq] w fun be w=>
 cU P 25 an ao w <|
 cU P 30 I ar w <|
 Bt P .append #[26,26] 26 #[be,bd] w fun bf w=>
 cU P 25 an ao w <|
 Dv P true (Instr.build 28 #[(0,ao),(1,bf)]) w fun bg=>
 cL P 28 aY bg w fun w=>
 k3 aY w))))/\
 ((Bs P 26 1 [(0,ar)] w.drew fun bi w=>
 cU P 25 an ao w <|
 cU P 26 ap aq w <|
 (Bs P 26 0 [] w fun bj w=>
 cU P 25 an ao w <|
 cU P 26 ap aq w <|
 cU P 30 I ar w <|
 (Bt P .append #[26,26] 26 #[bj,aq] w fun bk w=>
 cU P 25 an ao w <|
 cU P 30 I ar w <|
 (Bt P .append #[26,26] 26 #[bk,bi] w fun bl w=>
 cU P 25 an ao w <|
 Dv P true (Instr.build 28 #[(0,ao),(1,bl)]) w fun bm=>
 Al P 28 w fun bo w=>
 cU P 25 an ao w <|
 cU P 26 ap aq w <|
 cU P 30 I ar w <|
 cL P 28 bo bm w fun w=>
 k3 bo w)/\
 (Al P 28 w fun bp w=>
 cU P 25 an ao w <|
 cU P 26 ap aq w <|
 cU P 30 I ar w <|
 Bt P .append #[26,26] 26 #[bk,bi] w fun bq w=>
 cU P 25 an ao w <|
 Dv P true (Instr.build 28 #[(0,ao),(1,bq)]) w fun br=>
 cL P 28 bp br w fun w=>
 k3 bp w))/\
 (Al P 28 w fun bs w=>
 cU P 25 an ao w <|
 cU P 26 ap aq w <|
 cU P 30 I ar w <|
 Bt P .append #[26,26] 26 #[bj,aq] w fun bu w=>
 cU P 25 an ao w <|
 cU P 30 I ar w <|
 Bt P .append #[26,26] 26 #[bu,bi] w fun bv w=>
 cU P 25 an ao w <|
 Dv P true (Instr.build 28 #[(0,ao),(1,bv)]) w fun bx=>
 cL P 28 bs bx w fun w=>
 k3 bs w))/\
 (Al P 28 w fun bz w=>
 cU P 25 an ao w <|
 cU P 26 ap aq w <|
 cU P 30 I ar w <|
 Bs P 26 0 [] w fun bA w=>
 cU P 25 an ao w <|
 cU P 26 ap aq w <|
 cU P 30 I ar w <|
 Bt P .append #[26,26] 26 #[bA,aq] w fun bB w=>
 cU P 25 an ao w <|
 cU P 30 I ar w <|
 Bt P .append #[26,26] 26 #[bB,bi] w fun bC w=>
 cU P 25 an ao w <|
 Dv P true (Instr.build 28 #[(0,ao),(1,bC)]) w fun bD=>
 cL P 28 bz bD w fun w=>
 k3 bz w))/\
 (Al P 28 w.drew fun bE w=>
 cU P 25 an ao w <|
 cU P 26 ap aq w <|
 cU P 30 I ar w <|
 (Bs P 26 0 [] w fun bF w=>
 cU P 25 an ao w <|
 cU P 26 ap aq w <|
 cU P 30 I ar w <|
 (Bt P .append #[26,26] 26 #[bF,aq] w fun bG w=>
 cU P 25 an ao w <|
 cU P 30 I ar w <|
 Bs P 26 1 [(0,ar)] w fun bH w=>
 cU P 25 an ao w <|
 cU P 26 ap aq w <|
 Bt P .append #[26,26] 26 #[bG,bH] w fun bI w=>
 cU P 25 an ao w <|
 Dv P true (Instr.build 28 #[(0,ao),(1,bI)]) w fun bJ=>
 cL P 28 bE bJ w fun w=>
 k3 bE w)/\
 (Bs P 26 1 [(0,ar)] w fun bL w=>
 cU P 25 an ao w <|
 cU P 26 ap aq w <|
 Bt P .append #[26,26] 26 #[bF,aq] w fun bM w=>
 cU P 25 an ao w <|
 cU P 30 I ar w <|
 Bt P .append #[26,26] 26 #[bM,bL] w fun bN w=>
 cU P 25 an ao w <|
 Dv P true (Instr.build 28 #[(0,ao),(1,bN)]) w fun bO=>
 cL P 28 bE bO w fun w=>
 k3 bE w))/\
 (Bs P 26 1 [(0,ar)] w fun bS w=>
 cU P 25 an ao w <|
 cU P 26 ap aq w <|
 Bs P 26 0 [] w fun bT w=>
 cU P 25 an ao w <|
 cU P 26 ap aq w <|
 cU P 30 I ar w <|
 Bt P .append #[26,26] 26 #[bT,aq] w fun bU w=>
 cU P 25 an ao w <|
 cU P 30 I ar w <|
 Bt P .append #[26,26] 26 #[bU,bS] w fun bW w=>
 cU P 25 an ao w <|
 Dv P true (Instr.build 28 #[(0,ao),(1,bW)]) w fun bX=>
 cL P 28 bE bX w fun w=>
 k3 bE w))))
 (fun bY w=>
 Ld P 28 bY w fun bZ w=>
 Cl P 14 #[bZ] w (Pk R) fun ca w=>
 Un P .not ca w fun cb w=>
 If cb
 (Bd P 28 [] w fun cc w=>
 cL P 28 e cc w fun w=>
 Rc P 28 e w fun k=>
 R (.returned (.tuple #[k,(.int .i64 280)])) w)
 (Ld P 28 bY w fun cd w=>
 cL P 28 e cd w fun w=>
 Rc P 28 e w fun k=>
 R (.returned (.tuple #[k,(.int .i64 0)])) w))))))
theorem pK(h:lD prog t0 t1 w R):Calls prog 23 #[t0,t1] w R:=
 dW (.sq .z (.sq (.sq .z (.cd (.sq .z .z) .z)) (.jn [6] [13,14,15,16,17,18,19,20,21,22,23,24,25,26,27,28] (.dr (.pur true 0 (.pur false 1 (.pur true 2 (.pur false 3 (.pur true 4 (.pur false 5 (.pur true 6 (.pur false 7 (.pur true 8 (.pur false 9 (.pur true 10 (.pur false 11 (.pur true 12 (.pur false 13 (.alt (.eff 14 [1,3,5,7,9,11,13] (.pur true 15 (.eff 16 [1,3,5,7,9,11,13] (.eff 17 [] .done)))) (.eff 16 [1,3,5,7,9,11,13] (.eff 14 [1,3,5,7,9,11,13] (.pur true 15 (.eff 17 [] .done)))))))))))))))))))) (.sq (.sq .z (.bk (.lp [7] [29,30,31,32,33,34,35,36,37,38,39,40,41,42,43,44,45] (.sq (.sq .z (.cd .z .z)) (.sq (.bk (.dr (.pur true 0 (.pur false 1 (.pur true 2 (.pur false 3 (.pur true 4 (.pur true 5 (.pur true 6 (.pur false 7 (.pur true 8 (.pur true 9 (.eff 10 [] .done))))))))))))) .z))))) (.sq .z (.sq (.dr (.pur true 0 (.pur false 1 (.eff 2 [1] (.pur false 3 (.pur true 4 (.eff 5 [] .done))))))) (.jn [8] [54,55,56,57,58,59,60,61,62,63] (.dr (.pur true 0 (.pur false 1 (.pur true 3 (.pur false 4 (.pur false 6 (.alt (.eff 2 [1,4,6] (.alt (.eff 5 [1,6] (.alt (.eff 7 [1,4] (.alt (.eff 8 [1] (.pur true 9 (.eff 10 [1,4,6] (.eff 11 [] .done)))) (.eff 10 [1,4,6] (.eff 8 [1] (.pur true 9 (.eff 11 [] .done)))))) (.eff 10 [1,4,6] (.eff 7 [1,4] (.eff 8 [1] (.pur true 9 (.eff 11 [] .done))))))) (.alt (.eff 7 [1,4] (.alt (.eff 5 [1,6] (.alt (.eff 8 [1] (.pur true 9 (.eff 10 [1,4,6] (.eff 11 [] .done)))) (.eff 10 [1,4,6] (.eff 8 [1] (.pur true 9 (.eff 11 [] .done)))))) (.eff 10 [1,4,6] (.eff 5 [1,6] (.eff 8 [1] (.pur true 9 (.eff 11 [] .done))))))) (.eff 10 [1,4,6] (.alt (.eff 5 [1,6] (.eff 7 [1,4] (.eff 8 [1] (.pur true 9 (.eff 11 [] .done))))) (.eff 7 [1,4] (.eff 5 [1,6] (.eff 8 [1] (.pur true 9 (.eff 11 [] .done)))))))))) (.alt (.eff 7 [1,4] (.alt (.eff 2 [1,4,6] (.alt (.eff 5 [1,6] (.alt (.eff 8 [1] (.pur true 9 (.eff 10 [1,4,6] (.eff 11 [] .done)))) (.eff 10 [1,4,6] (.eff 8 [1] (.pur true 9 (.eff 11 [] .done)))))) (.eff 10 [1,4,6] (.eff 5 [1,6] (.eff 8 [1] (.pur true 9 (.eff 11 [] .done))))))) (.eff 10 [1,4,6] (.eff 2 [1,4,6] (.eff 5 [1,6] (.eff 8 [1] (.pur true 9 (.eff 11 [] .done)))))))) (.eff 10 [1,4,6] (.alt (.eff 2 [1,4,6] (.alt (.eff 5 [1,6] (.eff 7 [1,4] (.eff 8 [1] (.pur true 9 (.eff 11 [] .done))))) (.eff 7 [1,4] (.eff 5 [1,6] (.eff 8 [1] (.pur true 9 (.eff 11 [] .done))))))) (.eff 7 [1,4] (.eff 2 [1,4,6] (.eff 5 [1,6] (.eff 8 [1] (.pur true 9 (.eff 11 [] .done)))))))))))))))) (.sq (.sq .z (.cd (.sq .z .z) .z)) (.sq .z .z))))))))) [t0,t1] func23 (by kernel_rfl) (by kernel_rfl) h
theorem wW:Enters prog 23:=enters_of func23 (by kernel_rfl) rfl
theorem cS:Enters prog 24:=enters_of func24 (by kernel_rfl) rfl
def j0(P:Program)(a b:Value)(w:World)(R:Ending->World->Prop):Prop:=
 Bx P 28 a w fun c w=>
 Al P 28 w fun d w=>
 Ld P 28 c w fun e w=>
 Cl P 14 #[e] w (Pk R) fun f w=>
 Un P .not f w fun g w=>
 Gd g false (fun k=>k b w) w fun i w=>
 Gd g false (fun k=>Cl P 62 #[i] w (Pk R) k) w fun j w=>
 Gd g false (fun k=>Un P .not j w k) w fun l w=>
 cH g (.bool true) l w fun m w=>
 If m
 (Bd P 28 [] w fun n w=>
 cL P 28 d n w fun w=>
 Rc P 28 d w fun o=>
 R (.returned (.tuple #[o,(.slice none 0 0),(.int .i64 280)])) w)
 (Fa P 28 c 0 w fun p w=>
 Ld P 25 p w fun q w=>
 Bd P 28 [(0,q)] w fun r w=>
 Al P 28 w fun s w=>
 cL P 28 s r w fun w=>
 uN (.slice none 0 0) (.int .i64 0) w (fun u v w x=>
 Fa P 28 c 1 w fun y w=>
 Ld P 26 y w fun z w=>
 Bt P .len #[26] 3 #[z] w fun A w=>
 Bn P .lss 3 false v A w fun B w=>
 If B
 (Fa P 28 c 1 w fun C w=>
 Ld P 26 C w fun D w=>
 Ia P 26 D v w fun E w=>
 Ld P 30 E w fun F w=>
 Al P 30 w fun G w=>
 cL P 30 G F w fun w=>
 Fa P 30 G 7 w fun H w=>
 Ld P 3 H w fun I w=>
 uN u (.int .i64 0) w (fun J L w M=>
 Bt P .len #[31] 3 #[b] w fun N w=>
 Bn P .lss 3 false L N w fun O w=>
 If O
 (gu P 30 G 10 w.drew fun S=>
 dL P 4 S w.drew fun T=>
 Dv P true (Op.unary .not T) w.drew fun U=>
 dx U true (fun k=>k b) fun V=>
 dx U true (fun k=>k L) fun W=>
 dx U true (fun k=>tM P 31 V W w.drew k) fun X=>
 dx U true (fun k=>gu P 65 X 4 w.drew k) fun Y=>
 dx U true (fun k=>dL P 3 Y w.drew k) fun Z=>
 dx U true (fun k=>gu P 30 G 0 w.drew k) fun aa=>
 dx U true (fun k=>dL P 3 aa w.drew k) fun ab=>
 dx U true (fun k=>Dv P true (bn .eql 3 false Z ab) w.drew k) fun ac=>
 eH U ac (.bool false) fun ad=>
 dx ad true (fun k=>k b) fun ae=>
 dx ad true (fun k=>k L) fun af=>
 dx ad true (fun k=>tM P 31 ae af w.drew k) fun ag=>
 dx ad true (fun k=>gu P 65 ag 3 w.drew k) fun ai=>
 dx ad true (fun k=>dL P 3 ai w.drew k) fun aj=>
 dx ad true (fun k=>gu P 30 G 1 w.drew k) fun ak=>
 dx ad true (fun k=>dL P 3 ak w.drew k) fun al=>
 dx ad true (fun k=>Dv P true (bn .eql 3 false aj al) w.drew k) fun am=>
 eH ad am (.bool false) fun an=>
 dx an true (fun k=>k b) fun ao=>
 dx an true (fun k=>k L) fun ap=>
 dx an true (fun k=>tM P 31 ao ap w.drew k) fun aq=>
 dx an true (fun k=>gu P 65 aq 0 w.drew k) fun ar=>
 dx an true (fun k=>dL P 3 ar w.drew k) fun au=>
 dx an true (fun k=>k I) fun av=>
 dx an true (fun k=>Dv P true (bn .gtr 3 false au av) w.drew k) fun ax=>
 eH an ax (.bool false) fun ay=>
 If ay
 (Dv P false (Instr.loadAt 30 G) w.drew.drew fun az=>
 Dv P true (Instr.indexAt 31 b L) w.drew.drew fun aA=>
 Dv P true (Instr.fieldAt 65 aA 7) w.drew.drew fun aB=>
 Dv P false (Instr.loadAt 3 aB) w.drew.drew fun aC=>
 Dv P true (Instr.fieldAt 30 G 2) w.drew.drew fun aD=>
 Dv P false (Instr.loadAt 3 aD) w.drew.drew fun aE=>
 Dv P true (bn .gtr 3 false aC aE) w.drew.drew fun aF=>
 Cl P 63 #[az,aF] w.drew.drew (Pk R) fun aG w=>
 cL P 30 G aG w fun w=>
 Fa P 30 G 10 w fun aH w=>
 Ld P 4 aH w fun aI w=>
 If aI
 (Bs P 33 1 [(0,v)] w fun aJ w=>
 Bt P .append #[33,33] 33 #[J,aJ] w fun aL w=>
 Bn P .add 3 true L (.int .i64 1) w fun aM w=>
 M aL aM w)
 (Bn P .add 3 true L (.int .i64 1) w fun aN w=>
 M J aN w))
 (Bn P .add 3 true L (.int .i64 1) w.drew fun aO w=>
 M J aO w))
 (Iu (fun k3=>
 Bt P .len #[31] 3 #[b] w fun aT w=>
 Bn P .gtr 3 true aT (.int .i64 0) w fun aU w=>
 If aU
 (gu P 30 G 7 w.drew fun aV=>
 dL P 3 aV w.drew fun aW=>
 Dv P true (bV .len #[31] 3 #[b]) w.drew fun aX=>
 Dv P true (bn .sub 3 true aX (.int .i64 1)) w.drew fun aY=>
 tM P 31 b aY w.drew fun aZ=>
 gu P 65 aZ 0 w.drew fun ba=>
 dL P 3 ba w.drew fun bb=>
 Dv P true (bV .max #[3,3] 3 #[aW,bb]) w.drew fun bc=>
 gu P 30 G 7 w.drew fun bd=>
 cL P 3 bd bc w.drew fun w=>
 k3 w)
 (k3 w))
 (fun w=>
 Fa P 28 s 1 w fun be w=>
 Ld P 26 be w fun bf w=>
 Ld P 30 G w fun bg w=>
 Bs P 26 1 [(0,bg)] w fun bi w=>
 Bt P .append #[26,26] 26 #[bf,bi] w fun bj w=>
 Fa P 28 s 1 w fun bk w=>
 cL P 26 bk bj w fun w=>
 Bn P .add 3 true v (.int .i64 1) w fun bl w=>
 x J bl w))))
 (Ld P 28 s w fun bm w=>
 Cl P 14 #[bm] w (Pk R) fun bo w=>
 Un P .not bo w fun bp w=>
 If bp
 (Bd P 28 [] w fun bq w=>
 cL P 28 d bq w fun w=>
 Rc P 28 d w fun o=>
 R (.returned (.tuple #[o,(.slice none 0 0),(.int .i64 280)])) w)
 (Ld P 28 s w fun br w=>
 cL P 28 d br w fun w=>
 Rc P 28 d w fun o=>
 R (.returned (.tuple #[o,u,(.int .i64 0)])) w))))
theorem mt(h:j0 prog t0 t1 w R):Calls prog 25 #[t0,t1] w R:=
 dW (.sq .z (.sq (.sq .z (.cd (.sq .z .z) .z)) (.sq .z (.sq .z (.sq (.sq .z (.bk (.lp [8,9] [10,11,12,25,26,27,28,29,30,31,32,33,34,35,36,37,38,39,40,41,42,43,44,45,46,47,48,49,50,51,52,53,54,55,56,57,58,59,60,61,62,63,64,65,66,67,68,69,70,71,72,73,74,75,76,77,78,79,80,81,82,83,84,85,86,87,88,89,90,91,92,93,94,95,96,97,98,99,100,101,102,103,104,105,106,107,108,109,110,111,112] (.sq (.sq .z (.cd .z .z)) (.sq (.bk (.sq .z (.sq .z (.sq (.sq .z (.bk (.lp [8,12] [39,40,41,42,43,44,45,46,47,48,49,50,51,52,53,54,55,56,57,58,59,60,61,62,63,64,65,66,67,68,69,70,71,72,73,74,75,76,77,78,79,80,81,82,83,84,85,86,87,88,89,90,91,92] (.sq (.sq .z (.cd .z .z)) (.sq (.bk (.sq (.dr (.pur true 0 (.pur false 1 (.pur true 2 (.pur true 3 (.pur true 4 (.pur true 5 (.pur true 6 (.pur true 7 (.pur false 8 (.pur true 9 (.pur false 10 (.pur true 11 (.pur true 12 (.pur true 13 (.pur true 14 (.pur true 15 (.pur true 16 (.pur true 17 (.pur false 18 (.pur true 19 (.pur false 20 (.pur true 21 (.pur true 22 (.pur true 23 (.pur true 24 (.pur true 25 (.pur true 26 (.pur true 27 (.pur false 28 (.pur true 29 (.pur true 30 (.pur true 31 .done))))))))))))))))))))))))))))))))) (.cd (.sq (.dr (.pur false 0 (.pur true 1 (.pur true 2 (.pur true 3 (.pur true 4 (.pur false 5 (.pur true 6 (.pur false 7 (.pur true 8 (.eff 9 [] (.eff 10 [] .done)))))))))))) (.sq .z (.cd .z .z))) .z))) .z))))) (.jn [] [93,94,95,96,97,98,99,100,101,102,103,104,105,106] (.sq .z (.cd (.dr (.pur true 0 (.pur false 1 (.pur true 2 (.pur true 3 (.pur true 4 (.pur true 5 (.pur true 6 (.pur true 7 (.pur false 8 (.pur true 9 (.pur true 10 (.eff 11 [] .done))))))))))))) .z)) .z))))) .z))))) (.sq (.sq .z (.cd (.sq .z .z) .z)) (.sq .z .z))))))) [t0,t1] func25 (by kernel_rfl) (by kernel_rfl) h
theorem yx:Enters prog 25:=enters_of func25 (by kernel_rfl) rfl
def qu(P:Program)(a b:Value)(w:World)(R:Ending->World->Prop):Prop:=
 Bt P .len #[33] 3 #[a] w fun c w=>
 Bt P .len #[33] 3 #[b] w fun d w=>
 Bn P .neq 3 false c d w fun e w=>
 If e
 (R (.returned (.bool false)) w)
 (jt (.int .i64 0) w (fun f w g=>
 Bt P .len #[33] 3 #[a] w fun i w=>
 Bn P .lss 3 false f i w fun j w=>
 If j
 (tM P 33 a f w.drew fun k=>
 dL P 3 k w.drew fun l=>
 tM P 33 b f w.drew fun m=>
 dL P 3 m w.drew fun n=>
 Dv P true (bn .neq 3 false l n) w.drew fun o=>
 If o
 (R (.returned (.bool false)) w.drew)
 (Bn P .add 3 true f (.int .i64 1) w.drew fun p w=>
 g p w))
 (R (.returned (.bool true)) w)))
theorem vP(h:qu prog t0 t1 w R):Calls prog 26 #[t0,t1] w R:=
 dW (.sq .z (.sq (.sq .z (.cd (.sq .z .z) .z)) (.sq (.sq .z (.bk (.lp [5] [4,11,12,13,14,15,16,17,18,19,20,21,22,23,24,25] (.sq (.sq .z (.cd .z .z)) (.sq (.bk (.sq (.dr (.pur true 0 (.pur true 1 (.pur true 2 (.pur false 3 (.pur true 4 (.pur true 5 (.pur true 6 (.pur false 7 (.pur true 8 .done)))))))))) (.cd (.sq .z .z) .z))) .z))))) (.sq .z .z)))) [t0,t1] func26 (by kernel_rfl) (by kernel_rfl) h
theorem vQ:Enters prog 26:=enters_of func26 (by kernel_rfl) rfl
def vS(P:Program)(a b:Value)(w:World)(R:Ending->World->Prop):Prop:=
 Bn P .lss 3 true a (.int .i64 0) w fun c w=>
 If c
 (Bn P .add 3 true a (.int .i64 1) w fun d w=>
 Un P .neg d w fun e w=>
 Bn P .rem 3 false e b w fun f w=>
 R (.returned f) w)
 (Bn P .rem 3 false a b w fun g w=>
 R (.returned g) w)
theorem C3(h:vS prog t0 t1 w R):Calls prog 27 #[t0,t1] w R:=
 dW (.sq .z (.sq (.sq .z (.cd .z .z)) (.sq .z .z))) [t0,t1] func27 (by kernel_rfl) (by kernel_rfl) h
theorem ec:Enters prog 27:=enters_of func27 (by kernel_rfl) rfl
def mV(P:Program)(a b c d:Value)(w:World)(R:Ending->World->Prop):Prop:=
 Cl P 58 #[a] w (Pk R) fun e w=>
 Un P .not e w fun f w=>
 Gd f false (fun k=>k d w) w fun g w=>
 Gd f false (fun k=>Cl P 64 #[g,(.int .i64 0),(.int .i64 4398046511104)] w (Pk R) k) w fun i w=>
 Gd f false (fun k=>Un P .not i w k) w fun j w=>
 cH f (.bool true) j w fun l w=>
 If l
 (R (.returned (.tuple #[(.int .i64 0),(.int .i64 0),(.int .i64 0),(.int .i64 280)])) w)
 (Bt P .len #[31] 3 #[a] w fun m w=>
 P9 (.int .i64 0) (.int .i64 0) (.int .i64 0) (.int .i64 0) w (fun n o p q w r=>
 Bn P .lss 3 false q m w fun s w=>
 If s
 (Ia P 31 a q w fun u w=>
 Ld P 65 u w fun v w=>
 Al P 65 w fun x w=>
 cL P 65 x v w fun w=>
 Fa P 65 x 4 w fun y w=>
 Ld P 3 y w fun z w=>
 Bn P .neq 3 false z b w fun A w=>
 Gd A false (fun k=>Fa P 65 x 3 w k) w fun B w=>
 Gd A false (fun k=>Ld P 3 B w k) w fun C w=>
 Gd A false (fun k=>k c w) w fun D w=>
 Gd A false (fun k=>Bn P .neq 3 false C D w k) w fun E w=>
 cH A (.bool true) E w fun F w=>
 If F
 (Bn P .add 3 true q (.int .i64 1) w fun G w=>
 r n o p G w)
 (Bn P .add 3 true p (.int .i64 1) w fun H w=>
 mE (fun I=>
 Fa P 65 x 7 w fun J w=>
 Ld P 3 J w fun L w=>
 Bn P .gtr 3 false L d w fun M w=>
 If M
 (Bn P .add 3 true n (.int .i64 1) w fun N w=>
 I N w)
 (I n w))
 (fun O w=>
 Fa P 65 x 8 w fun S w=>
 Ld P 3 S w fun T w=>
 Bn P .gtr 3 false T d w fun U w=>
 If U
 (Bn P .add 3 true o (.int .i64 1) w fun V w=>
 Bn P .add 3 true q (.int .i64 1) w fun W w=>
 r O V H W w)
 (Bn P .add 3 true q (.int .i64 1) w fun X w=>
 r O o H X w))))
 (R (.returned (.tuple #[n,o,p,(.int .i64 0)])) w)))
theorem qv(h:mV prog t0 t1 t2 t3 w R):Calls prog 28 #[t0,t1,t2,t3] w R:=
 dW (.sq .z (.sq (.sq .z (.cd (.sq .z .z) .z)) (.sq .z (.sq (.sq .z (.bk (.lp [12,13,14,27] [16,28,29,30,31,32,33,34,35,36,37,38,39,40,41,42,43,44,45,46,47,48,49,50,51,52,53,54,55] (.sq .z (.sq (.cd .z .z) (.sq (.bk (.sq .z (.sq (.sq .z (.cd .z .z)) (.sq .z (.jn [12] [43,44,45,46,47,48] (.sq .z (.cd .z .z)) (.sq .z (.cd .z .z))))))) .z)))))) (.sq .z .z))))) [t0,t1,t2,t3] func28 (by kernel_rfl) (by kernel_rfl) h
theorem vT:Enters prog 28:=enters_of func28 (by kernel_rfl) rfl
def mW(P:Program)(a b c d:Value)(w:World)(R:Ending->World->Prop):Prop:=
 Cl P 62 #[a] w (Pk R) fun e w=>
 Un P .not e w fun f w=>
 Gd f false (fun k=>k d w) w fun g w=>
 Gd f false (fun k=>Cl P 65 #[g,(.int .i64 0),(.int .i64 4398046511104)] w (Pk R) k) w fun i w=>
 Gd f false (fun k=>Un P .not i w k) w fun j w=>
 cH f (.bool true) j w fun l w=>
 If l
 (R (.returned (.tuple #[(.int .i64 0),(.int .i64 0),(.int .i64 0),(.int .i64 280)])) w)
 (P9 (.int .i64 0) (.int .i64 0) (.int .i64 0) (.int .i64 0) w (fun m n o p w q=>
 Bt P .len #[31] 3 #[a] w fun r w=>
 Bn P .lss 3 false p r w fun s w=>
 If s
 (Ia P 31 a p w fun u w=>
 Fa P 65 u 4 w fun v w=>
 Ld P 3 v w fun x w=>
 Bn P .neq 3 false x b w fun y w=>
 Gd y false (fun k=>k a w) w fun z w=>
 Gd y false (fun k=>k p w) w fun A w=>
 Gd y false (fun k=>Ia P 31 z A w k) w fun B w=>
 Gd y false (fun k=>Fa P 65 B 3 w k) w fun C w=>
 Gd y false (fun k=>Ld P 3 C w k) w fun D w=>
 Gd y false (fun k=>k c w) w fun E w=>
 Gd y false (fun k=>Bn P .neq 3 false D E w k) w fun F w=>
 cH y (.bool true) F w fun G w=>
 If G
 (Bn P .add 3 true p (.int .i64 1) w fun H w=>
 q m n o H w)
 (Bn P .add 3 true o (.int .i64 1) w fun I w=>
 mE (fun J=>
 Ia P 31 a p w fun L w=>
 Fa P 65 L 7 w fun M w=>
 Ld P 3 M w fun N w=>
 Bn P .gtr 3 false N d w fun O w=>
 If O
 (Bn P .add 3 true m (.int .i64 1) w fun S w=>
 J S w)
 (J m w))
 (fun T w=>
 Ia P 31 a p w fun U w=>
 Fa P 65 U 8 w fun V w=>
 Ld P 3 V w fun W w=>
 Bn P .gtr 3 false W d w fun X w=>
 If X
 (Bn P .add 3 true n (.int .i64 1) w fun Y w=>
 Bn P .add 3 true p (.int .i64 1) w fun Z w=>
 q T Y I Z w)
 (Bn P .add 3 true p (.int .i64 1) w fun aa w=>
 q T n I aa w))))
 (R (.returned (.tuple #[m,n,o,(.int .i64 0)])) w)))
theorem qw(h:mW prog t0 t1 t2 t3 w R):Calls prog 29 #[t0,t1,t2,t3] w R:=
 dW (.sq .z (.sq (.sq .z (.cd (.sq .z .z) .z)) (.sq .z (.sq .z (.sq .z (.sq (.sq .z (.bk (.lp [12,13,14,15] [24,25,26,27,28,29,30,31,32,33,34,35,36,37,38,39,40,41,42,43,44,45,46,47,48,49,50,51,52,53,54,55,56,57,58,59,60,61,62,63,64,65] (.sq (.sq .z (.cd .z .z)) (.sq (.bk (.sq (.sq .z (.cd .z .z)) (.sq .z (.jn [12] [48,49,50,51,52,53,54,55,56] (.sq .z (.cd .z .z)) (.sq .z (.cd .z .z)))))) .z))))) (.sq .z .z))))))) [t0,t1,t2,t3] func29 (by kernel_rfl) (by kernel_rfl) h
theorem C4:Enters prog 29:=enters_of func29 (by kernel_rfl) rfl
def Ag(P:Program)(a b:Value)(w:World)(R:Ending->World->Prop):Prop:=
 Al P 25 w fun c w=>
 Cl P 66 #[a,b] w (Pk R) fun d w=>
 Ex d 0 w fun e w=>
 Ex d 1 w fun f w=>
 Al P 25 w fun g w=>
 cL P 25 g e w fun w=>
 Bn P .neq 46 true f (.int .i64 0) w fun i w=>
 If i
 (Bd P 25 [] w fun j w=>
 cL P 25 c j w fun w=>
 Rc P 25 c w fun k=>
 R (.returned k) w)
 (Ld P 25 g w fun l w=>
 cL P 25 c l w fun w=>
 Rc P 25 c w fun k=>
 R (.returned k) w)
theorem F6(h:Ag prog t0 t1 w R):Calls prog 30 #[t0,t1] w R:=
 dW (.sq .z (.sq .z (.sq (.sq .z (.cd (.sq .z .z) .z)) (.sq .z .z)))) [t0,t1] func30 (by kernel_rfl) (by kernel_rfl) h
theorem hZ:Enters prog 30:=enters_of func30 (by kernel_rfl) rfl
def vU(P:Program)(a b c:Value)(w:World)(R:Ending->World->Prop):Prop:=
 Al P 65 w fun d w=>
 Bn P .quo 3 true a (.int .i64 10) w fun e w=>
 Bd P 65 [(0,a),(4,(.int .i64 1)),(3,(.int .i64 2)),(5,(.int .i64 (-1))),(6,e),(7,b),(8,c)] w fun f w=>
 cL P 65 d f w fun w=>
 Rc P 65 d w fun g=>
 R (.returned g) w
theorem C5(h:vU prog t0 t1 t2 w R):Calls prog 33 #[t0,t1,t2] w R:=
 dW (.sq .z (.sq .z .z)) [t0,t1,t2] func33 (by kernel_rfl) (by kernel_rfl) h
theorem dd:Enters prog 33:=enters_of func33 (by kernel_rfl) rfl
def uk(P:Program)(a b:Value)(w:World)(R:Ending->World->Prop):Prop:=
 uN (.slice none 0 0) (.int .i64 0) w (fun c d w e=>
 Bt P .len #[22] 3 #[b] w fun f w=>
 Bn P .lss 3 false d f w fun g w=>
 Gd g true (fun k=>k d w) w fun i w=>
 Gd g true (fun k=>Bn P .lss 3 true i (.int .i64 30) w k) w fun j w=>
 cH g j (.bool false) w fun l w=>
 Gd l true (fun k=>k a w) w fun m w=>
 Gd l true (fun k=>k d w) w fun n w=>
 Gd l true (fun k=>Bn P .add 3 false m n w k) w fun o w=>
 Gd l true (fun k=>Bn P .leq 3 true o (.int .i64 999) w k) w fun p w=>
 cH l p (.bool false) w fun q w=>
 If q
 (mE (fun r=>
 Dv P true (bn .add 3 false a d) w.drew fun s=>
 tM P 22 b d w.drew fun u=>
 Dv P true (Instr.indexAt 121 u (.int .i64 0)) w.drew fun v=>
 dL P 3 v w.drew fun x=>
 tM P 22 b d w.drew fun y=>
 Dv P true (Instr.indexAt 121 y (.int .i64 0)) w.drew fun z=>
 dL P 3 z w.drew fun A=>
 Dv P true (bn .quo 3 true A (.int .i64 2)) w.drew fun B=>
 tM P 22 b d w.drew fun C=>
 Dv P true (Instr.indexAt 121 C (.int .i64 1)) w.drew fun D=>
 dL P 3 D w.drew fun E=>
 (Cl P 54 #[x,(.int .i64 2)] w.drew (Pk R) fun F w=>
 cU P 3 z A w <|
 cU P 3 D E w <|
 (Cl P 54 #[B,(.int .i64 2)] w (Pk R) fun G w=>
 cU P 3 D E w <|
 (Cl P 54 #[E,(.int .i64 60)] w (Pk R) fun H w=>
 Dv P true (Instr.build 65 #[(0,s),(4,F),(3,G),(5,(.int .i64 (-1))),(7,H)]) w fun I=>
 Al P 65 w fun J w=>
 cU P 3 v x w <|
 cU P 3 z A w <|
 cU P 3 D E w <|
 cL P 65 J I w fun w=>
 r J w)/\
 (Al P 65 w fun L w=>
 cU P 3 v x w <|
 cU P 3 z A w <|
 cU P 3 D E w <|
 Cl P 54 #[E,(.int .i64 60)] w (Pk R) fun M w=>
 Dv P true (Instr.build 65 #[(0,s),(4,F),(3,G),(5,(.int .i64 (-1))),(7,M)]) w fun N=>
 cL P 65 L N w fun w=>
 r L w))/\
 (Al P 65 w fun O w=>
 cU P 3 v x w <|
 cU P 3 z A w <|
 cU P 3 D E w <|
 Cl P 54 #[B,(.int .i64 2)] w (Pk R) fun S w=>
 cU P 3 D E w <|
 Cl P 54 #[E,(.int .i64 60)] w (Pk R) fun T w=>
 Dv P true (Instr.build 65 #[(0,s),(4,F),(3,S),(5,(.int .i64 (-1))),(7,T)]) w fun U=>
 cL P 65 O U w fun w=>
 r O w))/\
 (Al P 65 w.drew fun V w=>
 cU P 3 v x w <|
 cU P 3 z A w <|
 cU P 3 D E w <|
 Cl P 54 #[x,(.int .i64 2)] w (Pk R) fun W w=>
 cU P 3 z A w <|
 cU P 3 D E w <|
 Cl P 54 #[B,(.int .i64 2)] w (Pk R) fun X w=>
 cU P 3 D E w <|
 Cl P 54 #[E,(.int .i64 60)] w (Pk R) fun Y w=>
 Dv P true (Instr.build 65 #[(0,s),(4,W),(3,X),(5,(.int .i64 (-1))),(7,Y)]) w fun Z=>
 cL P 65 V Z w fun w=>
 r V w))
 (fun aa w=>
 gu P 65 aa 7 w.drew fun ab=>
 dL P 3 ab w.drew fun ac=>
 tM P 22 b d w.drew fun ad=>
 Dv P true (Instr.indexAt 121 ad (.int .i64 2)) w.drew fun ae=>
 dL P 3 ae w.drew fun af=>
 tM P 22 b d w.drew fun ag=>
 Dv P true (Instr.indexAt 121 ag (.int .i64 2)) w.drew fun ai=>
 dL P 3 ai w.drew fun aj=>
 Dv P true (bn .quo 3 true aj (.int .i64 3)) w.drew fun ak=>
 Cl P 54 #[af,(.int .i64 3)] w.drew (Pk R) fun al w=>
 cU P 3 ab ac w <|
 cU P 3 ai aj w <|
 Cl P 54 #[ak,(.int .i64 10)] w (Pk R) fun am w=>
 cU P 3 ab ac w <|
 Dv P true (bn .mul 3 false al am) w fun an=>
 Dv P true (bn .add 3 false ac an) w fun ao=>
 gu P 65 aa 8 w fun ap=>
 cL P 3 ap ao w fun w=>
 Fa P 65 aa 0 w fun aq w=>
 Ld P 3 aq w fun ar w=>
 Bn P .quo 3 true ar (.int .i64 10) w fun au w=>
 Fa P 65 aa 6 w fun av w=>
 cL P 3 av au w fun w=>
 Ld P 65 aa w fun ax w=>
 Bs P 31 1 [(0,ax)] w fun ay w=>
 Bt P .append #[31,31] 31 #[c,ay] w fun az w=>
 Bn P .add 3 true d (.int .i64 1) w fun aA w=>
 e az aA w))
 (R (.returned c) w))
theorem Bg(h:uk prog t0 t1 w R):Calls prog 37 #[t0,t1] w R:=
 dW (.sq .z (.sq .z (.sq (.sq .z (.bk (.lp [5,6] [7,8,9,10,11,12,13,14,15,16,17,18,19,20,21,22,23,24,25,26,27,28,29,30,31,32,33,34,35,36,37,38,39,40,41,42,43,44,45,46,47,48,49,50,51,52,53,54,55,56,57,58,59,60,61,62,63,64,65,66,67,68,69,70,71,72] (.sq (.sq .z (.cd .z .z)) (.sq (.bk (.jn [7] [24,25,26,27,28,29,30,31,32,33,34,35,36,37,38,39,40,41,42,43,44,45,46] (.dr (.pur true 0 (.pur true 1 (.pur true 2 (.pur true 3 (.pur true 4 (.pur true 5 (.pur true 6 (.pur false 7 (.pur true 9 (.pur true 10 (.pur true 11 (.pur true 12 (.pur false 13 (.pur true 14 (.pur true 16 (.pur true 17 (.pur true 18 (.pur true 19 (.pur false 20 (.alt (.eff 8 [13,20] (.alt (.eff 15 [20] (.alt (.eff 21 [] (.pur true 22 (.eff 23 [7,13,20] (.eff 24 [] .done)))) (.eff 23 [7,13,20] (.eff 21 [] (.pur true 22 (.eff 24 [] .done)))))) (.eff 23 [7,13,20] (.eff 15 [20] (.eff 21 [] (.pur true 22 (.eff 24 [] .done))))))) (.eff 23 [7,13,20] (.eff 8 [13,20] (.eff 15 [20] (.eff 21 [] (.pur true 22 (.eff 24 [] .done))))))))))))))))))))))))))) (.sq (.dr (.pur true 0 (.pur false 1 (.pur true 2 (.pur true 3 (.pur true 4 (.pur true 5 (.pur false 6 (.pur true 8 (.pur true 9 (.pur true 10 (.pur true 11 (.pur false 12 (.pur true 13 (.eff 7 [1,12] (.eff 14 [1] (.pur true 15 (.pur true 16 (.pur true 17 (.eff 18 [] .done)))))))))))))))))))) (.sq .z .z)))) .z))))) (.sq .z .z)))) [t0,t1] func37 (by kernel_rfl) (by kernel_rfl) h
theorem Bh:Enters prog 37:=enters_of func37 (by kernel_rfl) rfl
def um(P:Program)(a:Value)(w:World)(R:Ending->World->Prop):Prop:=
 Bx P 25 a w fun b w=>
 Al P 25 w fun c w=>
 gu P 25 b 0 w.drew fun d=>
 dL P 9 d w.drew fun e=>
 gu P 25 b 0 w.drew fun f=>
 dL P 9 f w.drew fun g=>
 Dv P true (bV .len #[9] 3 #[g]) w.drew fun i=>
 Dv P true (bV .min #[3,3] 3 #[i,(.int .i64 30)]) w.drew fun j=>
 Dv P true (Instr.sliceAt 9 e none (some j) none) w.drew fun k=>
 gu P 25 b 1 w.drew fun l=>
 dL P 9 l w.drew fun m=>
 gu P 25 b 1 w.drew fun n=>
 dL P 9 n w.drew fun o=>
 Dv P true (bV .len #[9] 3 #[o]) w.drew fun p=>
 Dv P true (bV .min #[3,3] 3 #[p,(.int .i64 30)]) w.drew fun q=>
 Dv P true (Instr.sliceAt 9 m none (some q) none) w.drew fun r=>
 Dv P true (Instr.build 25 #[(0,k),(1,r)]) w.drew fun s=>
 cL P 25 c s w.drew fun w=>
 Rc P 25 c w fun u=>
 R (.returned u) w
theorem Bi(h:um prog t0 w R):Calls prog 39 #[t0] w R:=
 dW (.sq .z (.sq (.dr (.pur true 0 (.pur false 1 (.pur true 2 (.pur false 3 (.pur true 4 (.pur true 5 (.pur true 6 (.pur true 7 (.pur false 8 (.pur true 9 (.pur false 10 (.pur true 11 (.pur true 12 (.pur true 13 (.pur true 14 (.eff 15 [] .done))))))))))))))))) .z)) [t0] func39 (by kernel_rfl) (by kernel_rfl) h
theorem jV:Enters prog 39:=enters_of func39 (by kernel_rfl) rfl
def iH(P:Program)(a b:Value)(w:World)(R:Ending->World->Prop):Prop:=
 Bx P 25 a w fun c w=>
 Fa P 25 c 1 w fun d w=>
 Ld P 9 d w fun e w=>
 Cl P 76 #[e] w (Pk R) fun f w=>
 Ex f 0 w fun g w=>
 Ex f 1 w fun i w=>
 Bn P .eql 123 true i .nilIface w fun j w=>
 Gd j true (fun k=>Ld P 25 c w k) w fun l w=>
 Gd j true (fun k=>Cl P 72 #[l] w (Pk R) k) w fun m w=>
 cH j m (.bool false) w fun n w=>
 Gd n true (fun k=>k g w) w fun o w=>
 Gd n true (fun k=>Bn P .leq 3 true o (.int .i64 1000) w k) w fun p w=>
 cH n p (.bool false) w fun q w=>
 Gd q true (fun k=>Ld P 25 c w k) w fun r w=>
 Gd q true (fun k=>Ld P 25 (.pointer (some ⟨1,0,none⟩)) w k) w fun s w=>
 Gd q true (fun k=>Cl P 34 #[r,s] w (Pk R) k) w fun u w=>
 Gd q true (fun k=>Bn P .geq 3 true u (.int .i64 0) w k) w fun v w=>
 cH q v (.bool false) w fun x w=>
 Gd x true (fun k=>Ld P 25 c w k) w fun y w=>
 Gd x true (fun k=>k b w) w fun z w=>
 Gd x true (fun k=>Bd P 25 [(0,z),(1,(bh [49]))] w k) w fun A w=>
 Gd x true (fun k=>Cl P 34 #[y,A] w (Pk R) k) w fun B w=>
 Gd x true (fun k=>Bn P .leq 3 true B (.int .i64 0) w k) w fun C w=>
 cH x C (.bool false) w fun D w=>
 R (.returned D) w
theorem jW(h:iH prog t0 t1 w R):Calls prog 41 #[t0,t1] w R:=
 dW (.sq .z (.sq .z (.sq .z .z))) [t0,t1] func41 (by kernel_rfl) (by kernel_rfl) h
theorem cR:Enters prog 41:=enters_of func41 (by kernel_rfl) rfl
def mw(P:Program)(a:Value)(w:World)(R:Ending->World->Prop):Prop:=
 Bx P 30 a w fun b w=>
 Ld P 30 b w fun c w=>
 Cl P 44 #[c] w (Pk R) fun d w=>
 Un P .not d w fun e w=>
 R (.returned e) w
theorem qW(h:mw prog t0 w R):Calls prog 43 #[t0] w R:=
 dW (.sq .z (.sq .z .z)) [t0] func43 (by kernel_rfl) (by kernel_rfl) h
theorem qX:Enters prog 43:=enters_of func43 (by kernel_rfl) rfl
theorem vV:Enters prog 44:=enters_of func44 (by kernel_rfl) rfl
def ur(P:Program)(a:Value)(w:World)(R:Ending->World->Prop):Prop:=
 Bx P 28 a w fun b w=>
 Al P 25 w fun c w=>
 Ld P 25 (.pointer (some ⟨1,0,none⟩)) w fun d w=>
 Al P 25 w fun e w=>
 cL P 25 e d w fun w=>
 Fa P 28 b 1 w fun f w=>
 Ld P 26 f w fun g w=>
 Bt P .len #[26] 3 #[g] w fun i w=>
 jt (.int .i64 0) w (fun j w k=>
 Bn P .lss 3 false j i w fun l w=>
 If l
 (Ia P 26 g j w fun m w=>
 Ld P 30 m w fun n w=>
 Al P 30 w fun o w=>
 cL P 30 o n w fun w=>
 Ld P 25 e w fun p w=>
 Fa P 30 o 4 w fun q w=>
 Ld P 25 q w fun r w=>
 Cl P 35 #[p,r] w (Pk R) fun s w=>
 Ex s 0 w fun u w=>
 Ex s 1 w fun v w=>
 Cl P 52 #[u,v] w (Pk R) fun x w=>
 cL P 25 e x w fun w=>
 Bn P .add 3 true j (.int .i64 1) w fun y w=>
 k y w)
 (Ld P 25 e w fun z w=>
 cL P 25 c z w fun w=>
 Rc P 25 c w fun A=>
 R (.returned A) w))
theorem Bj(h:ur prog t0 w R):Calls prog 45 #[t0] w R:=
 dW (.sq .z (.sq .z (.sq (.sq .z (.bk (.lp [10] [5,11,12,13,14,15,16,17,18,19,20,21] (.sq .z (.sq (.cd .z .z) (.sq (.bk (.sq .z .z)) .z)))))) (.sq .z .z)))) [t0] func45 (by kernel_rfl) (by kernel_rfl) h
theorem pa:Enters prog 45:=enters_of func45 (by kernel_rfl) rfl
def ib(P:Program)(a b:Value)(w:World)(R:Ending->World->Prop):Prop:=
 Bx P 25 a w fun c w=>
 Ld P 25 c w fun d w=>
 Cl P 79 #[d] w (Pk R) fun e w=>
 Un P .not e w fun f w=>
 If f
 (R (.returned (.bool false)) w)
 (Fa P 25 c 1 w fun g w=>
 Ld P 9 g w fun i w=>
 Cl P 80 #[i] w (Pk R) fun j w=>
 Ex j 0 w fun l w=>
 Ex j 1 w fun m w=>
 dL P 25 c w.drew fun n=>
 Cl P 55 #[(.int .i64 0),(.int .i64 1)] w.drew (Pk R) fun o w=>
 cU P 25 c n w <|
 Cl P 48 #[n,o] w (Pk R) fun p w=>
 dL P 25 c w.drew fun q=>
 Cl P 55 #[b,(.int .i64 1)] w.drew (Pk R) fun r w=>
 cU P 25 c q w <|
 Cl P 48 #[q,r] w (Pk R) fun s w=>
 Bn P .eql 46 true m (.int .i64 0) w fun u w=>
 Gd u true (fun k=>k l w) w fun v w=>
 Gd u true (fun k=>Bn P .leq 3 true v (.int .i64 1000) w k) w fun x w=>
 cH u x (.bool false) w fun y w=>
 Gd y true (fun k=>k p w) w fun z w=>
 Gd y true (fun k=>Bn P .geq 3 true z (.int .i64 0) w k) w fun A w=>
 cH y A (.bool false) w fun B w=>
 Gd B true (fun k=>k s w) w fun C w=>
 Gd B true (fun k=>Bn P .leq 3 true C (.int .i64 0) w k) w fun D w=>
 cH B D (.bool false) w fun E w=>
 R (.returned E) w)
theorem iI(h:ib prog t0 t1 w R):Calls prog 46 #[t0,t1] w R:=
 dW (.sq .z (.sq (.sq .z (.cd (.sq .z .z) .z)) (.sq .z (.sq (.dr (.pur false 0 (.eff 1 [0] (.eff 2 [] (.pur true 3 .done))))) (.sq (.dr (.pur false 0 (.pur true 1 (.eff 2 [0] (.eff 3 [] (.pur true 4 .done)))))) (.sq .z .z)))))) [t0,t1] func46 (by kernel_rfl) (by kernel_rfl) h
theorem dE:Enters prog 46:=enters_of func46 (by kernel_rfl) rfl
theorem ut:Enters prog 47:=enters_of func47 (by kernel_rfl) rfl
def uu(P:Program)(a:Value)(w:World)(R:Ending->World->Prop):Prop:=
 Bx P 28 a w fun b w=>
 Al P 25 w fun c w=>
 Cl P 55 #[(.int .i64 0),(.int .i64 1)] w (Pk R) fun d w=>
 Al P 25 w fun e w=>
 cL P 25 e d w fun w=>
 jt (.int .i64 0) w (fun f w g=>
 Fa P 28 b 1 w fun i w=>
 Ld P 26 i w fun j w=>
 Bt P .len #[26] 3 #[j] w fun k w=>
 Bn P .lss 3 false f k w fun l w=>
 If l
 (dL P 25 e w.drew fun m=>
 gu P 28 b 1 w.drew fun n=>
 dL P 26 n w.drew fun o=>
 tM P 26 o f w.drew fun p=>
 gu P 30 p 4 w.drew fun q=>
 dL P 25 q w.drew fun r=>
 Cl P 87 #[m,r] w.drew (Pk R) fun s w=>
 cL P 25 e s w fun w=>
 Bn P .add 3 true f (.int .i64 1) w fun u w=>
 g u w)
 (Ld P 25 e w fun v w=>
 cL P 25 c v w fun w=>
 Rc P 25 c w fun x=>
 R (.returned x) w))
theorem Bl(h:uu prog t0 w R):Calls prog 49 #[t0] w R:=
 dW (.sq .z (.sq .z (.sq (.sq .z (.bk (.lp [4] [6,7,8,9,10,11,12,13,14,15,16,17,18,19,20] (.sq (.sq .z (.cd .z .z)) (.sq (.bk (.dr (.pur false 0 (.pur true 1 (.pur false 2 (.pur true 3 (.pur true 4 (.pur true 5 (.pur false 6 (.eff 7 [] (.eff 8 [] .done))))))))))) .z))))) (.sq .z .z)))) [t0] func49 (by kernel_rfl) (by kernel_rfl) h
theorem pc:Enters prog 49:=enters_of func49 (by kernel_rfl) rfl
def kL(P:Program)(a:Value)(w:World)(R:Ending->World->Prop):Prop:=
 Al P 28 w fun b w=>
 Nc a w fun c w=>
 Fa P 93 c 0 w fun d w=>
 Ld P 28 d w fun e w=>
 Cl P 13 #[e] w (Pk R) fun f w=>
 Un P .not f w fun g w=>
 If g
 (Bd P 28 [] w fun i w=>
 cL P 28 b i w fun w=>
 Rc P 28 b w fun j=>
 R (.returned (.tuple #[j,(.int .i64 280)])) w)
 (Nc a w fun k w=>
 Fa P 93 k 0 w fun l w=>
 Ld P 28 l w fun m w=>
 cL P 28 b m w fun w=>
 Rc P 28 b w fun j=>
 R (.returned (.tuple #[j,(.int .i64 0)])) w)
theorem oA(h:kL prog t0 w R):Calls prog 51 #[t0] w R:=
 dW (.sq .z (.sq (.sq .z (.cd (.sq .z .z) .z)) (.sq .z .z))) [t0] func51 (by kernel_rfl) (by kernel_rfl) h
theorem gX:Enters prog 51:=enters_of func51 (by kernel_rfl) rfl
def vY(P:Program)(a b:Value)(w:World)(R:Ending->World->Prop):Prop:=
 Bx P 25 a w fun c w=>
 Al P 25 w fun d w=>
 Bn P .neq 46 true b (.int .i64 0) w fun e w=>
 If e
 (Bd P 83 [] w fun f w=>
 Mi P 83 f w fun g w=>
 Pn P g w (Pk R) fun _ w=>
 Ld P 25 c w fun i w=>
 cL P 25 d i w fun w=>
 Rc P 25 d w fun j=>
 R (.returned j) w)
 (Ld P 25 c w fun k w=>
 cL P 25 d k w fun w=>
 Rc P 25 d w fun j=>
 R (.returned j) w)
theorem C6(h:vY prog t0 t1 w R):Calls prog 52 #[t0,t1] w R:=
 dW (.sq .z (.sq (.sq .z (.cd .z .z)) (.sq .z .z))) [t0,t1] func52 (by kernel_rfl) (by kernel_rfl) h
theorem ew:Enters prog 52:=enters_of func52 (by kernel_rfl) rfl
def xK(P:Program)(a b:Value)(w:World)(R:Ending->World->Prop):Prop:=
 Bx P 25 a w fun c w=>
 Bx P 25 b w fun d w=>
 Al P 25 w fun e w=>
 Ld P 25 c w fun f w=>
 Ld P 25 d w fun g w=>
 Cl P 88 #[f,g] w (Pk R) fun i w=>
 Ex i 0 w fun j w=>
 Ex i 1 w fun k w=>
 Al P 25 w fun l w=>
 cL P 25 l j w fun w=>
 Bn P .neq 46 true k (.int .i64 0) w fun m w=>
 If m
 (Bd P 25 [] w fun n w=>
 cL P 25 e n w fun w=>
 Rc P 25 e w fun o=>
 R (.returned o) w)
 (Ld P 25 l w fun p w=>
 cL P 25 e p w fun w=>
 Rc P 25 e w fun o=>
 R (.returned o) w)
theorem Ey(h:xK prog t0 t1 w R):Calls prog 53 #[t0,t1] w R:=
 dW (.sq .z (.sq .z (.sq (.sq .z (.cd (.sq .z .z) .z)) (.sq .z .z)))) [t0,t1] func53 (by kernel_rfl) (by kernel_rfl) h
theorem jo:Enters prog 53:=enters_of func53 (by kernel_rfl) rfl
def vZ(P:Program)(a b:Value)(w:World)(R:Ending->World->Prop):Prop:=
 Bn P .lss 3 true a (.int .i64 0) w fun c w=>
 If c
 (Bn P .add 3 true a (.int .i64 1) w fun d w=>
 Un P .neg d w fun e w=>
 Bn P .rem 3 false e b w fun f w=>
 R (.returned f) w)
 (Bn P .rem 3 false a b w fun g w=>
 R (.returned g) w)
theorem C7(h:vZ prog t0 t1 w R):Calls prog 54 #[t0,t1] w R:=
 dW (.sq .z (.sq (.sq .z (.cd .z .z)) (.sq .z .z))) [t0,t1] func54 (by kernel_rfl) (by kernel_rfl) h
theorem cK:Enters prog 54:=enters_of func54 (by kernel_rfl) rfl
def Ah(P:Program)(a b:Value)(w:World)(R:Ending->World->Prop):Prop:=
 Al P 25 w fun c w=>
 Cl P 89 #[a,b] w (Pk R) fun d w=>
 Ex d 0 w fun e w=>
 Ex d 1 w fun f w=>
 Al P 25 w fun g w=>
 cL P 25 g e w fun w=>
 Bn P .neq 46 true f (.int .i64 0) w fun i w=>
 If i
 (Bd P 25 [] w fun j w=>
 cL P 25 c j w fun w=>
 Rc P 25 c w fun k=>
 R (.returned k) w)
 (Ld P 25 g w fun l w=>
 cL P 25 c l w fun w=>
 Rc P 25 c w fun k=>
 R (.returned k) w)
theorem F7(h:Ah prog t0 t1 w R):Calls prog 55 #[t0,t1] w R:=
 dW (.sq .z (.sq .z (.sq (.sq .z (.cd (.sq .z .z) .z)) (.sq .z .z)))) [t0,t1] func55 (by kernel_rfl) (by kernel_rfl) h
theorem cq:Enters prog 55:=enters_of func55 (by kernel_rfl) rfl
def Ai(P:Program)(a:Value)(w:World)(R:Ending->World->Prop):Prop:=
 Bx P 28 a w fun b w=>
 gu P 28 b 0 w.drew fun c=>
 dL P 25 c w.drew fun d=>
 gu P 28 b 1 w.drew fun e=>
 dL P 26 e w.drew fun f=>
 Cl P 90 #[f] w.drew (Pk R) fun g w=>
 cU P 25 c d w <|
 Dv P true (Instr.build 28 #[(0,d),(1,g)]) w fun i=>
 Dv P true (Instr.build 93 #[(0,i)]) w fun j=>
 Bx P 93 j w fun k w=>
 R (.returned k) w
theorem F8(h:Ai prog t0 w R):Calls prog 56 #[t0] w R:=
 dW (.sq .z (.sq (.dr (.pur true 0 (.pur false 1 (.pur true 2 (.pur false 3 (.eff 4 [1] (.pur true 5 (.pur true 6 (.eff 7 [] (.pur true 8 .done)))))))))) .z)) [t0] func56 (by kernel_rfl) (by kernel_rfl) h
theorem Aj:Enters prog 56:=enters_of func56 (by kernel_rfl) rfl
def pL(P:Program)(a:Value)(w:World)(R:Ending->World->Prop):Prop:=
 Bx P 91 a w fun b w=>
 R (.returned (.func (.func 91) #[] #[b])) w
theorem wX(h:pL prog t0 w R):Calls prog 57 #[t0] w R:=
 dW (.sq .z (.sq .z .z)) [t0] func57 (by kernel_rfl) (by kernel_rfl) h
theorem pM:Enters prog 57:=enters_of func57 (by kernel_rfl) rfl
def sM(P:Program)(a:Value)(w:World)(R:Ending->World->Prop):Prop:=
 Bx P 101 a w fun b w=>
 Dv P false (Instr.loadAt 25 (.pointer (some ⟨0,0,none⟩))) w.drew fun c=>
 Dv P false (Instr.loadAt 25 (.pointer (some ⟨1,0,none⟩))) w.drew fun d=>
 (Cw P (.func (.func 95) #[] #[b]) #[c] w.drew (Pk R) fun e w=>
 Ke P (Instr.loadAt 25 (.pointer (some ⟨1,0,none⟩))) d w <|
 (Cw P (.func (.func 95) #[] #[b]) #[d] w (Pk R) fun f w=>
 (Al P 25 w fun g w=>
 Ke P (Instr.loadAt 25 (.pointer (some ⟨0,0,none⟩))) c w <|
 Ke P (Instr.loadAt 25 (.pointer (some ⟨1,0,none⟩))) d w <|
 Al P 25 w fun i w=>
 Ke P (Instr.loadAt 25 (.pointer (some ⟨0,0,none⟩))) c w <|
 Ke P (Instr.loadAt 25 (.pointer (some ⟨1,0,none⟩))) d w <|
 cL P 25 g e w fun w=>
 cL P 25 i f w fun w=>
 R (.returned (.func (.func 96) #[] #[g,i])) w)/\
 (Al P 25 w fun j w=>
 Ke P (Instr.loadAt 25 (.pointer (some ⟨0,0,none⟩))) c w <|
 Ke P (Instr.loadAt 25 (.pointer (some ⟨1,0,none⟩))) d w <|
 Al P 25 w fun k w=>
 Ke P (Instr.loadAt 25 (.pointer (some ⟨0,0,none⟩))) c w <|
 Ke P (Instr.loadAt 25 (.pointer (some ⟨1,0,none⟩))) d w <|
 cL P 25 k e w fun w=>
 cL P 25 j f w fun w=>
 R (.returned (.func (.func 96) #[] #[k,j])) w))/\
 ((Al P 25 w fun l w=>
 Ke P (Instr.loadAt 25 (.pointer (some ⟨0,0,none⟩))) c w <|
 Ke P (Instr.loadAt 25 (.pointer (some ⟨1,0,none⟩))) d w <|
 (Cw P (.func (.func 95) #[] #[b]) #[d] w (Pk R) fun m w=>
 Al P 25 w fun n w=>
 Ke P (Instr.loadAt 25 (.pointer (some ⟨0,0,none⟩))) c w <|
 Ke P (Instr.loadAt 25 (.pointer (some ⟨1,0,none⟩))) d w <|
 cL P 25 l e w fun w=>
 cL P 25 n m w fun w=>
 R (.returned (.func (.func 96) #[] #[l,n])) w)/\
 (Al P 25 w fun o w=>
 Ke P (Instr.loadAt 25 (.pointer (some ⟨0,0,none⟩))) c w <|
 Ke P (Instr.loadAt 25 (.pointer (some ⟨1,0,none⟩))) d w <|
 Cw P (.func (.func 95) #[] #[b]) #[d] w (Pk R) fun p w=>
 cL P 25 l e w fun w=>
 cL P 25 o p w fun w=>
 R (.returned (.func (.func 96) #[] #[l,o])) w))/\
 (Al P 25 w fun q w=>
 Ke P (Instr.loadAt 25 (.pointer (some ⟨0,0,none⟩))) c w <|
 Ke P (Instr.loadAt 25 (.pointer (some ⟨1,0,none⟩))) d w <|
 (Cw P (.func (.func 95) #[] #[b]) #[d] w (Pk R) fun r w=>
 Al P 25 w fun s w=>
 Ke P (Instr.loadAt 25 (.pointer (some ⟨0,0,none⟩))) c w <|
 Ke P (Instr.loadAt 25 (.pointer (some ⟨1,0,none⟩))) d w <|
 cL P 25 s e w fun w=>
 cL P 25 q r w fun w=>
 R (.returned (.func (.func 96) #[] #[s,q])) w)/\
 (Al P 25 w fun u w=>
 Ke P (Instr.loadAt 25 (.pointer (some ⟨0,0,none⟩))) c w <|
 Ke P (Instr.loadAt 25 (.pointer (some ⟨1,0,none⟩))) d w <|
 Cw P (.func (.func 95) #[] #[b]) #[d] w (Pk R) fun v w=>
 cL P 25 u e w fun w=>
 cL P 25 q v w fun w=>
 R (.returned (.func (.func 96) #[] #[u,q])) w))))/\
 ((Al P 25 w.drew fun x w=>
 Ke P (Instr.loadAt 25 (.pointer (some ⟨0,0,none⟩))) c w <|
 Ke P (Instr.loadAt 25 (.pointer (some ⟨1,0,none⟩))) d w <|
 (Cw P (.func (.func 95) #[] #[b]) #[c] w (Pk R) fun y w=>
 Ke P (Instr.loadAt 25 (.pointer (some ⟨1,0,none⟩))) d w <|
 (Cw P (.func (.func 95) #[] #[b]) #[d] w (Pk R) fun z w=>
 Al P 25 w fun A w=>
 Ke P (Instr.loadAt 25 (.pointer (some ⟨0,0,none⟩))) c w <|
 Ke P (Instr.loadAt 25 (.pointer (some ⟨1,0,none⟩))) d w <|
 cL P 25 x y w fun w=>
 cL P 25 A z w fun w=>
 R (.returned (.func (.func 96) #[] #[x,A])) w)/\
 (Al P 25 w fun B w=>
 Ke P (Instr.loadAt 25 (.pointer (some ⟨0,0,none⟩))) c w <|
 Ke P (Instr.loadAt 25 (.pointer (some ⟨1,0,none⟩))) d w <|
 Cw P (.func (.func 95) #[] #[b]) #[d] w (Pk R) fun C w=>
 cL P 25 x y w fun w=>
 cL P 25 B C w fun w=>
 R (.returned (.func (.func 96) #[] #[x,B])) w))/\
 (Al P 25 w fun D w=>
 Ke P (Instr.loadAt 25 (.pointer (some ⟨0,0,none⟩))) c w <|
 Ke P (Instr.loadAt 25 (.pointer (some ⟨1,0,none⟩))) d w <|
 Cw P (.func (.func 95) #[] #[b]) #[c] w (Pk R) fun E w=>
 Ke P (Instr.loadAt 25 (.pointer (some ⟨1,0,none⟩))) d w <|
 Cw P (.func (.func 95) #[] #[b]) #[d] w (Pk R) fun F w=>
 cL P 25 x E w fun w=>
 cL P 25 D F w fun w=>
 R (.returned (.func (.func 96) #[] #[x,D])) w))/\
 (Al P 25 w.drew fun G w=>
 Ke P (Instr.loadAt 25 (.pointer (some ⟨0,0,none⟩))) c w <|
 Ke P (Instr.loadAt 25 (.pointer (some ⟨1,0,none⟩))) d w <|
 (Cw P (.func (.func 95) #[] #[b]) #[c] w (Pk R) fun H w=>
 Ke P (Instr.loadAt 25 (.pointer (some ⟨1,0,none⟩))) d w <|
 (Cw P (.func (.func 95) #[] #[b]) #[d] w (Pk R) fun I w=>
 Al P 25 w fun J w=>
 Ke P (Instr.loadAt 25 (.pointer (some ⟨0,0,none⟩))) c w <|
 Ke P (Instr.loadAt 25 (.pointer (some ⟨1,0,none⟩))) d w <|
 cL P 25 J H w fun w=>
 cL P 25 G I w fun w=>
 R (.returned (.func (.func 96) #[] #[J,G])) w)/\
 (Al P 25 w fun L w=>
 Ke P (Instr.loadAt 25 (.pointer (some ⟨0,0,none⟩))) c w <|
 Ke P (Instr.loadAt 25 (.pointer (some ⟨1,0,none⟩))) d w <|
 Cw P (.func (.func 95) #[] #[b]) #[d] w (Pk R) fun M w=>
 cL P 25 L H w fun w=>
 cL P 25 G M w fun w=>
 R (.returned (.func (.func 96) #[] #[L,G])) w))/\
 (Al P 25 w fun N w=>
 Ke P (Instr.loadAt 25 (.pointer (some ⟨0,0,none⟩))) c w <|
 Ke P (Instr.loadAt 25 (.pointer (some ⟨1,0,none⟩))) d w <|
 Cw P (.func (.func 95) #[] #[b]) #[c] w (Pk R) fun O w=>
 Ke P (Instr.loadAt 25 (.pointer (some ⟨1,0,none⟩))) d w <|
 Cw P (.func (.func 95) #[] #[b]) #[d] w (Pk R) fun S w=>
 cL P 25 N O w fun w=>
 cL P 25 G S w fun w=>
 R (.returned (.func (.func 96) #[] #[N,G])) w)))
theorem Ez(h:sM prog t0 w R):Calls prog 59 #[t0] w R:=
 dW (.sq .z (.sq .z (.sq (.dr (.pur true 0 (.pur false 1 (.pur true 3 (.pur false 4 (.alt (.eff 2 [4] (.alt (.eff 5 [] (.alt (.eff 6 [1,4] (.eff 7 [1,4] (.eff 8 [] (.eff 9 [] .done)))) (.eff 7 [1,4] (.eff 6 [1,4] (.eff 8 [] (.eff 9 [] .done)))))) (.alt (.eff 6 [1,4] (.alt (.eff 5 [] (.eff 7 [1,4] (.eff 8 [] (.eff 9 [] .done)))) (.eff 7 [1,4] (.eff 5 [] (.eff 8 [] (.eff 9 [] .done)))))) (.eff 7 [1,4] (.alt (.eff 5 [] (.eff 6 [1,4] (.eff 8 [] (.eff 9 [] .done)))) (.eff 6 [1,4] (.eff 5 [] (.eff 8 [] (.eff 9 [] .done))))))))) (.alt (.eff 6 [1,4] (.alt (.eff 2 [4] (.alt (.eff 5 [] (.eff 7 [1,4] (.eff 8 [] (.eff 9 [] .done)))) (.eff 7 [1,4] (.eff 5 [] (.eff 8 [] (.eff 9 [] .done)))))) (.eff 7 [1,4] (.eff 2 [4] (.eff 5 [] (.eff 8 [] (.eff 9 [] .done))))))) (.eff 7 [1,4] (.alt (.eff 2 [4] (.alt (.eff 5 [] (.eff 6 [1,4] (.eff 8 [] (.eff 9 [] .done)))) (.eff 6 [1,4] (.eff 5 [] (.eff 8 [] (.eff 9 [] .done)))))) (.eff 6 [1,4] (.eff 2 [4] (.eff 5 [] (.eff 8 [] (.eff 9 [] .done)))))))))))))) (.sq .z .z)))) [t0] func59 (by kernel_rfl) (by kernel_rfl) h
theorem EA:Enters prog 59:=enters_of func59 (by kernel_rfl) rfl
def sN(P:Program)(a:Value)(w:World)(R:Ending->World->Prop):Prop:=
 Bx P 30 a w fun b w=>
 gu P 30 b 9 w.drew fun c=>
 dL P 25 c w.drew fun d=>
 gu P 30 b 4 w.drew fun e=>
 dL P 25 e w.drew fun f=>
 Dv P false (Instr.loadAt 25 (.pointer (some ⟨0,0,none⟩))) w.drew fun g=>
 Cl P 32 #[d,f] w.drew (Pk R) fun i w=>
 Ke P (Instr.loadAt 25 (.pointer (some ⟨0,0,none⟩))) g w <|
 gR i 0 fun j=>
 gR i 1 fun k=>
 Cl P 52 #[j,k] w (Pk R) fun l w=>
 Ke P (Instr.loadAt 25 (.pointer (some ⟨0,0,none⟩))) g w <|
 Cl P 34 #[l,g] w (Pk R) fun m w=>
 Dv P true (bn .geq 3 true m (.int .i64 0)) w fun n=>
 R (.returned n) w
theorem xM(h:sN prog t0 w R):Calls prog 61 #[t0] w R:=
 dW (.sq .z (.sq (.dr (.pur true 0 (.pur false 1 (.pur true 2 (.pur false 3 (.pur false 8 (.eff 4 [8] (.pur true 5 (.pur true 6 (.eff 7 [8] (.eff 9 [] (.pur true 10 (.pur true 11 .done))))))))))))) .z)) [t0] func61 (by kernel_rfl) (by kernel_rfl) h
theorem sO:Enters prog 61:=enters_of func61 (by kernel_rfl) rfl
def nM(P:Program)(a b:Value)(w:World)(R:Ending->World->Prop):Prop:=
 Bx P 30 a w fun c w=>
 Al P 30 w fun d w=>
 Cl P 55 #[(.int .i64 0),(.int .i64 1)] w (Pk R) fun e w=>
 Al P 25 w fun f w=>
 cL P 25 f e w fun w=>
 Iu (fun g=>
 If b
 (Cl P 55 #[(.int .i64 1),(.int .i64 1)] w (Pk R) fun i w=>
 cL P 25 f i w fun w=>
 g w)
 (g w))
 (fun w=>
 mE (fun j=>
 gu P 30 c 5 w.drew fun k=>
 dL P 25 k w.drew fun l=>
 dL P 25 f w.drew fun m=>
 gu P 30 c 3 w.drew fun n=>
 dL P 25 n w.drew fun o=>
 (Cl P 55 #[(.int .i64 1),(.int .i64 1)] w.drew (Pk R) fun p w=>
 cU P 25 k l w <|
 cU P 25 f m w <|
 cU P 25 n o w <|
 (Cl P 53 #[m,o] w (Pk R) fun q w=>
 cU P 25 k l w <|
 (Cl P 81 #[l,q] w (Pk R) fun r w=>
 (Cl P 87 #[p,r] w (Pk R) fun s w=>
 Al P 25 w fun u w=>
 cU P 25 k l w <|
 cU P 25 f m w <|
 cU P 25 n o w <|
 cL P 25 u s w fun w=>
 j u w)/\
 (Al P 25 w fun v w=>
 cU P 25 k l w <|
 cU P 25 f m w <|
 cU P 25 n o w <|
 Cl P 87 #[p,r] w (Pk R) fun x w=>
 cL P 25 v x w fun w=>
 j v w))/\
 (Al P 25 w fun y w=>
 cU P 25 k l w <|
 cU P 25 f m w <|
 cU P 25 n o w <|
 Cl P 81 #[l,q] w (Pk R) fun z w=>
 Cl P 87 #[p,z] w (Pk R) fun A w=>
 cL P 25 y A w fun w=>
 j y w))/\
 (Al P 25 w fun B w=>
 cU P 25 k l w <|
 cU P 25 f m w <|
 cU P 25 n o w <|
 Cl P 53 #[m,o] w (Pk R) fun C w=>
 cU P 25 k l w <|
 Cl P 81 #[l,C] w (Pk R) fun D w=>
 Cl P 87 #[p,D] w (Pk R) fun E w=>
 cL P 25 B E w fun w=>
 j B w))/\
 (Al P 25 w.drew fun F w=>
 cU P 25 k l w <|
 cU P 25 f m w <|
 cU P 25 n o w <|
 Cl P 55 #[(.int .i64 1),(.int .i64 1)] w (Pk R) fun G w=>
 cU P 25 k l w <|
 cU P 25 f m w <|
 cU P 25 n o w <|
 Cl P 53 #[m,o] w (Pk R) fun H w=>
 cU P 25 k l w <|
 Cl P 81 #[l,H] w (Pk R) fun I w=>
 Cl P 87 #[G,I] w (Pk R) fun J w=>
 cL P 25 F J w fun w=>
 j F w))
 (fun L w=>
 Fa P 30 c 9 w fun M w=>
 Ld P 25 M w fun N w=>
 Ld P 25 L w fun O w=>
 Cl P 81 #[N,O] w (Pk R) fun S w=>
 Cl P 99 #[S,(.int .i64 12)] w (Pk R) fun T w=>
 Ex T 0 w fun U w=>
 Ex T 1 w fun V w=>
 Al P 25 w fun W w=>
 cL P 25 W U w fun w=>
 Iu (fun X=>
 Bn P .neq 46 true V (.int .i64 0) w fun Y w=>
 If Y
 (Bd P 25 [] w fun Z w=>
 cL P 25 W Z w fun w=>
 X w)
 (X w))
 (fun w=>
 Ld P 25 W w fun aa w=>
 Fa P 30 c 9 w fun ab w=>
 cL P 25 ab aa w fun w=>
 Fa P 30 c 8 w fun ac w=>
 Ld P 3 ac w fun ad w=>
 Bn P .add 3 true ad (.int .i64 1) w fun ae w=>
 Fa P 30 c 8 w fun af w=>
 cL P 3 af ae w fun w=>
 Fa P 30 c 9 w fun ag w=>
 Ld P 25 ag w fun ai w=>
 Fa P 30 c 4 w fun aj w=>
 Ld P 25 aj w fun ak w=>
 Cl P 83 #[ai,ak] w (Pk R) fun al w=>
 Fa P 30 c 10 w fun am w=>
 cL P 4 am al w fun w=>
 Ld P 30 c w fun an w=>
 cL P 30 d an w fun w=>
 Rc P 30 d w fun r0=>
 R (.returned r0) w)))
theorem sP(h:nM prog t0 t1 w R):Calls prog 63 #[t0,t1] w R:=
 dW (.sq .z (.sq .z (.jn [] [10,11] (.sq .z (.cd .z .z)) (.jn [6] [12,13,14,15,16,17,18,19,20] (.dr (.pur true 1 (.pur false 2 (.pur false 3 (.pur true 4 (.pur false 5 (.alt (.eff 0 [2,3,5] (.alt (.eff 6 [2] (.alt (.eff 7 [] (.alt (.eff 8 [] (.eff 9 [2,3,5] (.eff 10 [] .done))) (.eff 9 [2,3,5] (.eff 8 [] (.eff 10 [] .done))))) (.eff 9 [2,3,5] (.eff 7 [] (.eff 8 [] (.eff 10 [] .done)))))) (.eff 9 [2,3,5] (.eff 6 [2] (.eff 7 [] (.eff 8 [] (.eff 10 [] .done))))))) (.eff 9 [2,3,5] (.eff 0 [2,3,5] (.eff 6 [2] (.eff 7 [] (.eff 8 [] (.eff 10 [] .done))))))))))))) (.sq .z (.jn [] [29,30,31] (.sq .z (.cd .z .z)) (.sq .z (.sq .z (.sq .z (.sq .z .z)))))))))) [t0,t1] func63 (by kernel_rfl) (by kernel_rfl) h
theorem sQ:Enters prog 63:=enters_of func63 (by kernel_rfl) rfl
def uT(P:Program)(a b c:Value)(w:World)(R:Ending->World->Prop):Prop:=
 Bn P .geq 3 false a b w fun d w=>
 Gd d true (fun k=>k a w) w fun e w=>
 Gd d true (fun k=>k c w) w fun f w=>
 Gd d true (fun k=>Bn P .leq 3 false e f w k) w fun g w=>
 cH d g (.bool false) w fun i w=>
 R (.returned i) w
theorem Am(h:uT prog t0 t1 t2 w R):Calls prog 64 #[t0,t1,t2] w R:=
 dW (.sq .z (.sq .z .z)) [t0,t1,t2] func64 (by kernel_rfl) (by kernel_rfl) h
theorem cX:Enters prog 64:=enters_of func64 (by kernel_rfl) rfl
def uU(P:Program)(a b c:Value)(w:World)(R:Ending->World->Prop):Prop:=
 Bn P .geq 3 false a b w fun d w=>
 Gd d true (fun k=>k a w) w fun e w=>
 Gd d true (fun k=>k c w) w fun f w=>
 Gd d true (fun k=>Bn P .leq 3 false e f w k) w fun g w=>
 cH d g (.bool false) w fun i w=>
 R (.returned i) w
theorem An(h:uU prog t0 t1 t2 w R):Calls prog 65 #[t0,t1,t2] w R:=
 dW (.sq .z (.sq .z .z)) [t0,t1,t2] func65 (by kernel_rfl) (by kernel_rfl) h
theorem cY:Enters prog 65:=enters_of func65 (by kernel_rfl) rfl
def xN(P:Program)(a b:Value)(w:World)(R:Ending->World->Prop):Prop:=
 Bx P 25 a w fun c w=>
 Bx P 25 b w fun d w=>
 Al P 25 w fun e w=>
 Ld P 25 c w fun f w=>
 Ld P 25 d w fun g w=>
 Cl P 120 #[f,g] w (Pk R) fun i w=>
 Ex i 0 w fun j w=>
 Ex i 1 w fun k w=>
 Al P 25 w fun l w=>
 cL P 25 l j w fun w=>
 Bn P .neq 46 true k (.int .i64 0) w fun m w=>
 If m
 (Bd P 25 [] w fun n w=>
 cL P 25 e n w fun w=>
 Rc P 25 e w fun o=>
 R (.returned o) w)
 (Ld P 25 l w fun p w=>
 cL P 25 e p w fun w=>
 Rc P 25 e w fun o=>
 R (.returned o) w)
theorem EB(h:xN prog t0 t1 w R):Calls prog 81 #[t0,t1] w R:=
 dW (.sq .z (.sq .z (.sq (.sq .z (.cd (.sq .z .z) .z)) (.sq .z .z)))) [t0,t1] func81 (by kernel_rfl) (by kernel_rfl) h
theorem dN:Enters prog 81:=enters_of func81 (by kernel_rfl) rfl
def kM(P:Program)(a:Value)(w:World)(R:Ending->World->Prop):Prop:=
 Bx P 25 a w fun b w=>
 Fa P 25 b 1 w fun c w=>
 Ld P 9 c w fun d w=>
 Cl P 80 #[d] w (Pk R) fun e w=>
 Ex e 0 w fun f w=>
 Ex e 1 w fun g w=>
 Bn P .eql 46 true g (.int .i64 0) w fun i w=>
 Gd i true (fun k=>k f w) w fun j w=>
 Gd i true (fun k=>Bn P .geq 3 true j (.int .i64 1) w k) w fun l w=>
 cH i l (.bool false) w fun m w=>
 Gd m true (fun k=>k f w) w fun n w=>
 Gd m true (fun k=>Bn P .rem 3 true (.int .i64 1000000000000) n w k) w fun o w=>
 Gd m true (fun k=>Bn P .eql 3 true o (.int .i64 0) w k) w fun p w=>
 cH m p (.bool false) w fun q w=>
 R (.returned q) w
theorem nN(h:kM prog t0 w R):Calls prog 82 #[t0] w R:=
 dW (.sq .z (.sq .z (.sq .z .z))) [t0] func82 (by kernel_rfl) (by kernel_rfl) h
theorem sR:Enters prog 82:=enters_of func82 (by kernel_rfl) rfl
def sS(P:Program)(a b:Value)(w:World)(R:Ending->World->Prop):Prop:=
 Bx P 25 a w fun c w=>
 Bx P 25 b w fun d w=>
 Ld P 25 c w fun e w=>
 Ld P 25 d w fun f w=>
 Cl P 81 #[e,f] w (Pk R) fun g w=>
 Cl P 55 #[(.int .i64 1),(.int .i64 1)] w (Pk R) fun i w=>
 Cl P 48 #[g,i] w (Pk R) fun j w=>
 Bn P .geq 3 true j (.int .i64 0) w fun k w=>
 R (.returned k) w
theorem xO(h:sS prog t0 t1 w R):Calls prog 83 #[t0,t1] w R:=
 dW (.sq .z (.sq .z .z)) [t0,t1] func83 (by kernel_rfl) (by kernel_rfl) h
theorem oB:Enters prog 83:=enters_of func83 (by kernel_rfl) rfl
def xP(P:Program)(a b:Value)(w:World)(R:Ending->World->Prop):Prop:=
 Bx P 25 a w fun c w=>
 Bx P 25 b w fun d w=>
 Al P 25 w fun e w=>
 Ld P 25 c w fun f w=>
 Ld P 25 d w fun g w=>
 Cl P 128 #[f,g] w (Pk R) fun i w=>
 Ex i 0 w fun j w=>
 Ex i 1 w fun k w=>
 Al P 25 w fun l w=>
 cL P 25 l j w fun w=>
 Bn P .neq 46 true k (.int .i64 0) w fun m w=>
 If m
 (Bd P 25 [] w fun n w=>
 cL P 25 e n w fun w=>
 Rc P 25 e w fun o=>
 R (.returned o) w)
 (Ld P 25 l w fun p w=>
 cL P 25 e p w fun w=>
 Rc P 25 e w fun o=>
 R (.returned o) w)
theorem EC(h:xP prog t0 t1 w R):Calls prog 87 #[t0,t1] w R:=
 dW (.sq .z (.sq .z (.sq (.sq .z (.cd (.sq .z .z) .z)) (.sq .z .z)))) [t0,t1] func87 (by kernel_rfl) (by kernel_rfl) h
theorem fK:Enters prog 87:=enters_of func87 (by kernel_rfl) rfl
def nO(P:Program)(a b:Value)(w:World)(R:Ending->World->Prop):Prop:=
 Ld P 91 b w fun c w=>
 Nc c w fun d w=>
 Fa P 93 d 0 w fun e w=>
 Fa P 28 e 1 w fun f w=>
 Ld P 26 f w fun g w=>
 Bt P .len #[26] 3 #[g] w fun i w=>
 jt (.int .i64 0) w (fun j w k=>
 Bn P .lss 3 false j i w fun l w=>
 If l
 (Ld P 91 b w fun m w=>
 Nc m w fun n w=>
 Fa P 93 n 0 w fun o w=>
 Fa P 28 o 1 w fun p w=>
 Ld P 26 p w fun q w=>
 Ia P 26 q j w fun r w=>
 Cw P a #[j,r] w (Pk R) fun s w=>
 Un P .not s w fun u w=>
 If u
 (R (.returned (.tuple #[])) w)
 (Bn P .add 3 true j (.int .i64 1) w fun v w=>
 k v w))
 (R (.returned (.tuple #[])) w))
theorem uV(h:nO prog t0 t1 w R):Calls prog 91 #[t0,t1] w R:=
 dW (.sq .z (.bk (.lp [10] [3,11,12,13,14,15,16,17,18,19,20,21,22,23,24] (.sq .z (.sq (.cd .z .z) (.sq (.bk (.sq .z (.sq .z (.cd .z .z)))) .z)))))) [t0,t1] func91 (by kernel_rfl) (by kernel_rfl) h
theorem nP:Enters prog 91:=enters_of func91 (by kernel_rfl) rfl
def uv(P:Program)(a b:Value)(w:World)(R:Ending->World->Prop):Prop:=
 Bx P 25 a w fun c w=>
 Al P 25 w fun d w=>
 Dv P false (Instr.loadAt 25 (.pointer (some ⟨0,0,none⟩))) w.drew fun e=>
 dL P 101 b w.drew fun f=>
 Dl f fun g=>
 gu P 30 g 5 w.drew fun i=>
 dL P 25 i w.drew fun j=>
 dL P 25 c w.drew fun k=>
 dL P 101 b w.drew fun l=>
 Dl l fun m=>
 gu P 30 m 3 w.drew fun n=>
 dL P 25 n w.drew fun o=>
 Cl P 31 #[k,o] w.drew (Pk R) fun p w=>
 Ke P (Instr.loadAt 25 (.pointer (some ⟨0,0,none⟩))) e w <|
 cU P 101 b f w <|
 cU P 25 i j w <|
 gR p 0 fun q=>
 gR p 1 fun r=>
 Cl P 52 #[q,r] w (Pk R) fun s w=>
 Ke P (Instr.loadAt 25 (.pointer (some ⟨0,0,none⟩))) e w <|
 cU P 101 b f w <|
 cU P 25 i j w <|
 Cl P 32 #[j,s] w (Pk R) fun u w=>
 Ke P (Instr.loadAt 25 (.pointer (some ⟨0,0,none⟩))) e w <|
 gR u 0 fun v=>
 gR u 1 fun x=>
 Cl P 52 #[v,x] w (Pk R) fun y w=>
 Ke P (Instr.loadAt 25 (.pointer (some ⟨0,0,none⟩))) e w <|
 Cl P 35 #[e,y] w (Pk R) fun z w=>
 gR z 0 fun A=>
 gR z 1 fun B=>
 Cl P 52 #[A,B] w (Pk R) fun C w=>
 cL P 25 d C w fun w=>
 Rc P 25 d w fun D=>
 R (.returned D) w
theorem Bm(h:uv prog t0 t1 w R):Calls prog 95 #[t0,t1] w R:=
 dW (.sq .z (.sq (.dr (.pur false 0 (.pur false 1 (.pur true 2 (.pur true 3 (.pur false 4 (.pur false 5 (.pur false 6 (.pur true 7 (.pur true 8 (.pur false 9 (.eff 10 [0,1,4] (.pur true 11 (.pur true 12 (.eff 13 [0,1,4] (.eff 14 [0] (.pur true 15 (.pur true 16 (.eff 17 [0] (.eff 18 [] (.pur true 19 (.pur true 20 (.eff 21 [] (.eff 22 [] .done)))))))))))))))))))))))) .z)) [t0,t1] func95 (by kernel_rfl) (by kernel_rfl) h
theorem dA:Enters prog 95:=enters_of func95 (by kernel_rfl) rfl
def pd(P:Program)(a b c:Value)(w:World)(R:Ending->World->Prop):Prop:=
 Al P 25 w fun d w=>
 If a
 (Ld P 25 b w fun e w=>
 cL P 25 d e w fun w=>
 Rc P 25 d w fun f=>
 R (.returned f) w)
 (Ld P 25 c w fun g w=>
 cL P 25 d g w fun w=>
 Rc P 25 d w fun f=>
 R (.returned f) w)
theorem uw(h:pd prog t0 t1 t2 w R):Calls prog 96 #[t0,t1,t2] w R:=
 dW (.sq .z (.sq (.sq .z (.cd (.sq .z .z) .z)) (.sq .z .z))) [t0,t1,t2] func96 (by kernel_rfl) (by kernel_rfl) h
theorem Bo:Enters prog 96:=enters_of func96 (by kernel_rfl) rfl
end Go.Proofs.YtnkmbjedcjcccaaGreatDoor
