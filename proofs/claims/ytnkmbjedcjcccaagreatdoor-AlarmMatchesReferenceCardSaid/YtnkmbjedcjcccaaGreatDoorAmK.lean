/-
  Contracts and plain lemmas. By an AI agent.
-/
import Derived.Test.YtnkmbjedcjcccaaGreatDoorTyp
import Derived.Test.YtnkmbjedcjcccaaGreatDoorAmH
set_option linter.all false
namespace Go.Proofs.YtnkmbjedcjcccaaGreatDoor
open Tryz
open Go Go.Eng
set_option maxRecDepth 100000
def pm(P:Program)(t15:Value)(t126:Value)(t21:Value)(t17:Value)(t18:Value)(t19:Value)(k1:Value->Value->Value->World->Prop)(w:World)(R:Ending->World->Prop):Prop:=
 cL P 28 t15 t126 w fun w=>
 Bt P .len #[33] 3 #[t21] w fun t130 w=>
 Bn P .add 3 false t17 t130 w fun t131 w=>
 Bn P .add 3 true t18 (.int .i64 1) w fun t67 w=>
 k1 t19 t131 t67 w
end Go.Proofs.YtnkmbjedcjcccaaGreatDoor
namespace Go.Proofs.YtnkmbjedcjcccaaGreatDoor
open Tryz
open Go Go.Eng Go.Proofs Go.Num Go.RowKit
open Go.Alm (Ft Wt Sm VW VA dn gO obs obs1 dD obsN fresh fL RgI Sx)
set_option maxRecDepth 100000
def T1(l:List Ft):Prop:=l.Pairwise fun x y=>x.tr < y.tr
section
variable{w0:World}{R:Ending->World->Prop}{n:Int}{B:Rat}{fv:Value}{fl:List Ft}{cs:List Wt}{t j g15:Nat}{ux:Int}{k1:Value->Value->Value->World->Prop}{t21:Value}
section
variable{g20:Nat}{p20:Option Addr}{q20 r20:Nat}(hE:En w0)(hC:VB n B cs)(hn:0<=n/\n<=1000)(b20:cM w0 g20 jA [bh (tx B).1,bh (tx B).2,.slice p20 q20 r20])(sc:dJ w0 15 (.slice p20 q20 r20) cs.length ((cs.map wr).flatMap fW))
 (hk:∀ W,bK w0 W->pm prog (pr g15 0) (.agg #[bh (tx B).1,bh (tx B).2,.slice p20 q20 r20]) t21 (.int .i64 ux) (.int .i64 (j:Int)) (.int .i64 (t:Int)) k1 W R)
include hE hC hn b20 sc hk
end
end
section
variable{w0:World}{R:Ending->World->Prop}{B:Rat}{fv:Value}{fl:List Ft}{ws:List Wt}{g9 g12 i:Nat}{p9:Option Addr}{q9 r9:Nat}{p12:Option Addr}{q12 r12:Nat}{k5:Value->World->Prop}{z:Wt}
variable(hE:En w0)(hB:VB 0 B ws)(sF:dJ w0 10 fv fl.length (fl.flatMap fF))(hV:tC fl)(hP:T1 fl)(hfn:fl.length<=30)(sa:dJ w0 15 (.slice p9 q9 r9) ws.length ((ws.map wr).flatMap fW))(b12:cM w0 g12 jA [bh (tx B).1,bh (tx B).2,.slice p12 q12 r12])(sw:dJ w0 15 (.slice p12 q12 r12) ws.length (((obs ws fl).map wr).flatMap fW))
 (hw:ws[i]?=some z) (hk:∀ W,bK w0 W->k5 (.int .i64 ((i:Int)+1)) W)
include hE hB sF hV hP hfn sa b12 sw hw hk
omit hw hk
end
abbrev fZ(c:Int):List Value:=[.int .i64 c]
section
variable{w0:World}{R:Ending->World->Prop}{B:Rat}{fv v3:Value}{fl:List Ft}{cl:List Int}{ws:List Wt}{g9 g12:Nat}{p9:Option Addr}{q9 r9:Nat}{p12:Option Addr}{q12 r12:Nat}{p49:Option Addr}{q49 r49:Nat}
variable(hE:En w0)(hB:VB 0 B ws)(sF:dJ w0 10 fv fl.length (fl.flatMap fF))(hV:tC fl)(hP:T1 fl)(hfn:fl.length<=30)(sa:dJ w0 15 (.slice p9 q9 r9) ws.length ((ws.map wr).flatMap fW))(b12:cM w0 g12 jA [bh (tx B).1,bh (tx B).2,.slice p12 q12 r12])(sw:dJ w0 15 (.slice p12 q12 r12) ws.length (((obs ws fl).map wr).flatMap fW))
 (b9:cM w0 g9 jA [bh (tx B).1,bh (tx B).2,.slice p9 q9 r9]) (hR:∀ W,bK w0 W->R (.returned (.bool true)) W) (s49:dJ w0 1 (.slice p49 q49 r49) (dD ws (obs ws fl) 0).length ((dD ws (obs ws fl) 0).flatMap fN))
 (h3:dJ w0 1 v3 cl.length (cl.flatMap fZ)) (oc:∀ c∈cl,eS c) (nc:cl.length<=9223372036854775807) (hsa:∀ k,(Value.slice p9 q9 r9).ownBlock=some k->k < w0.heap.size)
include hE hB sF hV hP hfn sa b12 sw b9 hR s49 h3 oc nc hsa
end
section
variable{w0:World}{b:Int}{v1 v2 v3:Value}{l:List I6}{l3:List I3}{cl:List Int}(hE:En w0)(hb:eS b)(h1:dJ w0 6 v1 l.length (l.flatMap S3))(h2:dJ w0 3 v2 l3.length (l3.flatMap fT))(h3:dJ w0 1 v3 cl.length (cl.flatMap fZ))(o1:QR l)(o2:E6 l3)(o3:∀ c∈cl,eS c)(n1:l.length<=9223372036854775807)(n2:l3.length<=9223372036854775807)(n3:cl.length<=9223372036854775807)
include hE hb h1 h2 h3 o1 o2 o3 n1 n2 n3
end
end Go.Proofs.YtnkmbjedcjcccaaGreatDoor
