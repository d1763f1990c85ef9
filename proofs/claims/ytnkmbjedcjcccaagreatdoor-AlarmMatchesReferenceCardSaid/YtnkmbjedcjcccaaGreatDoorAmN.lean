/-
  Contracts and plain lemmas. By an AI agent.
-/
import Derived.Test.YtnkmbjedcjcccaaGreatDoorTyp
import Derived.Test.YtnkmbjedcjcccaaGreatDoorAmK
import Derived.Test.YtnkmbjedcjcccaaGreatDoorPlain
set_option linter.all false
namespace Go.Proofs.YtnkmbjedcjcccaaGreatDoor
open Go Go.Eng
set_option maxRecDepth 100000
end Go.Proofs.YtnkmbjedcjcccaaGreatDoor
namespace Go.Proofs.YtnkmbjedcjcccaaGreatDoor
open Go Go.Eng Go.Proofs Go.Num Go.RowKit
open Go.Alm (Ft Wt Sm VW VA dn gO obs obs1 dD obsN fresh fL MN KQ KR Mk Ok TQ PM NF PN Inv)
set_option maxRecDepth 100000
def T2(x:Int):Int:=IntKind.i64.wrap x
structure Cc where
 more:Int
 x:I6
 shift:Int
 skip:Bool
structure Cck(p:Cc):Prop where
 more:eS p.more
 x:∀ i,eS (p.x i)
 shift:eS p.shift
abbrev SE(p:Cc):List Value:=[.int .i64 p.more,.int .i64 (p.x 0),.int .i64 (p.x 1),.int .i64 (p.x 2),.int .i64 (p.x 3),.int .i64 (p.x 4),.int .i64 (p.x 5),.int .i64 p.shift,.bool p.skip]
def UF(p:Cc)(sn:Nat):I6:=fun i=>if i=3 then T2 (p.x 3+sn * cQ p.shift 6) else if i=4 then T2 (p.x 4+sn * cQ p.shift 5) else p.x i
def SG(x:I6):Wt:={ NQ x with op:=1,ve:=2,lim:=50 }
noncomputable def Qt(B:Rat)(p:Cc)(sn:Nat)(ws:List Wt):List Wt:=if p.skip && decide (0 < sn) then ws else S4 B ws (SG (UF p sn))
section
variable{w0:World}{R:Ending->World->Prop}{n:Int}{B m:Rat}{v3:Value}{pl:List Cc}{vs:List Wt}{p:Cc}{kk g25 t sn:Nat}{fg:Bool}{k5:Value->Value->Value->Value->World->Prop}
variable(hE:En w0)(hB:VB n B vs)(hn:0<=n/\n<=1000)(s3:dJ w0 9 v3 pl.length (pl.flatMap SE))(hp:pl[kk]?=some p)(hpk:Cck p)(hkk:kk<=5)(hsn:sn<=100)
 (hk:∀ {W':World} {a:Option Addr} {b c:Nat},Hp [] w0 W' [ro gM 15 (.slice a b c) (Qt B p sn vs).length (((Qt B p sn vs).map wr).flatMap fW),bx g25 jA [bh (tx B).1,bh (tx B).2,.slice a b c]]->k5 (.int .i64 (t:Int)) (.int .i64 (sn:Int)) (.bool fg) (.int .i64 ((kk:Int)+1)) W')
include hE hB hn s3 hp hpk hkk hsn hk
end
theorem Qu{T G Q:World->Prop}(h1:∀ w,(∀ w',Q w'->T w')->Q w->G w)(h2:∀ w,Q w->T w):∀ w,Q w->G w:=fun w hq=>h1 w h2 hq
section
variable{w0:World}{R:Ending->World->Prop}{n:Int}{B m:Rat}{v3:Value}{vs:List Wt}{kk g10 g25 t s0 j:Nat}{fg:Bool}{k5:Value->Value->Value->Value->World->Prop}{k7:Value->Value->World->Prop}{rg:List Nat}
 {a:Option Addr} {b c:Nat} {a':Option Addr} {b' c':Nat}
variable(hE:En w0)(hB:VB n B vs)(hm:RB m)(b10:cM w0 g10 tR (fR (tx m)))(hrl:rg.length<=12)(hri:∀ i∈rg,i < vs.length)(hj:j<=rg.length)
include hE hB hm b10 hrl hri hj
omit hj
end
section
variable{w0:World}{R:Ending->World->Prop}{n:Int}{B m:Rat}{v3 fv:Value}{ws:List Wt}{fl:List Ft}{kk g10 g25 t at0 s0 nn g16 g18:Nat}{kz:Int}{fg:Bool}{k5:Value->Value->Value->Value->World->Prop}{k2:Value->World->Prop}{pl:List Cc}{p:Cc}
variable(hE:En w0)(hB:VB n B ws)(hn:0<=n/\n<=900)(hm:RB m)(b10:cM w0 g10 tR (fR (tx m)))(sF:dJ w0 10 fv fl.length (fl.flatMap fF))(hV:tC fl)(hfn:fl.length=nn)(hnn:nn<=7)(hat:at0<=nn)(hs0:s0<=60)
include hE hB hn hm b10 sF hV hfn hnn hat hs0
omit sF hV hfn hnn hat hs0
include sF hV hfn hnn hat
end
end Go.Proofs.YtnkmbjedcjcccaaGreatDoor
namespace Go.Proofs.YtnkmbjedcjcccaaGreatDoor
open Go Go.Eng Go.Proofs Go.Num Go.RowKit
open Go.Alm (Ft Wt Sm VW VA dn gO obs obs1 dD obsN fresh fL MN KQ KR Mk Ok TQ PM NF PN Inv DN UD NG)
set_option maxRecDepth 100000
section
variable{w0:World}{R:Ending->World->Prop}{B m:Rat}{v3 fv:Value}{y:List Bool}{g10 g16 g18:Nat}{kz:Int}{k2:Value->World->Prop}{pl:List Cc}{fin:Bool}
end
section
variable{w0:World}{R:Ending->World->Prop}{B m:Rat}{v3:Value}{g10 g11 g13 g14 g16 k d nn:Nat}{k2:Value->World->Prop}{pl:List Cc}
variable(hE:En w0)(hd:0 < d/\d<=5)(hmd:DN d m)(hm0:0<=m)(hm1:m<=1)(hms:SR 4 4 m)(hns:SR 4 4 (1 - m))(b10:cM w0 g10 tR (fR (tx m)))(b11:cM w0 g11 tR (fR (tx (1 - m))))(b13:cM w0 g13 tR (fR (tx B)))(b14:cM w0 g14 jA [bh (tx B).1,bh (tx B).2,.slice none 0 0])
 (s3:dJ w0 9 v3 pl.length (pl.flatMap SE)) (hpl:∀ p∈pl,Cck p) (n3:pl.length<=9223372036854775807) (hV0:VB 0 B []) (hnn:nn<=7)
include hE hd hmd hm0 hm1 hms hns b10 b11 b13 b14 s3 hpl n3 hV0 hnn
end
section
variable{w0:World}{b c nm:Int}{v3:Value}{pl:List Cc}(hE:En w0)(hb:eS b)(hc:eS c)(hnm:eS nm)(s3:dJ w0 9 v3 pl.length (pl.flatMap SE))(hpl:∀ p∈pl,Cck p)(n3:pl.length<=9223372036854775807)
include hE hb hc hnm s3 hpl n3
end
end Go.Proofs.YtnkmbjedcjcccaaGreatDoor
