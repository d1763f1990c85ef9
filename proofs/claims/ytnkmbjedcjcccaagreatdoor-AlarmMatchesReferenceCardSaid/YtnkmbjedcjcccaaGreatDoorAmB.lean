/-
  Contracts and plain lemmas. By an AI agent.
-/
import Derived.Test.YtnkmbjedcjcccaaGreatDoorAmA
set_option linter.all false
namespace Go.Proofs.YtnkmbjedcjcccaaGreatDoor
open Go Go.Eng Go.Proofs Go.Num Go.RowKit
open Go.Alm (Ft Wt Sm VW VA dn gO obs obs1 dD obsN fresh fL)
set_option maxRecDepth 100000
abbrev I2:=Int×Int
abbrev UG(a:I2):List Value:=[.int .i64 a.1,.int .i64 a.2]
def SH(l:List I2):Prop:=∀ a∈l,eS a.1/\eS a.2
structure SF(f:Ft):Prop where
 v:VF f
 hi:f.hi<=1000
structure Chg(g:Ft->I2->Ft):Prop where
 k:∀ f a,SF f->f.hi<=900->SF (g f a)/\(g f a).tr=f.tr/\(g f a).sp=f.sp/\(g f a).op=f.op/\(g f a).ve=f.ve/\f.lo<=(g f a).lo
theorem Fk.of{w:World}{v:Value}{fl:List Ft}(hv:dJ w 10 v fl.length (fl.flatMap fF))(h:tC fl):Fk w v fl:=⟨hv,iK h,by have:=h.1;omega⟩
section
variable{w0:World}{b:Int}{v1 v2 v3:Value}{l:List I6}{l3:List I3}{l2:List I2}(hE:En w0)(hb:eS b)(h1:dJ w0 6 v1 l.length (l.flatMap S3))(h2:dJ w0 3 v2 l3.length (l3.flatMap fT))(h3:dJ w0 2 v3 l2.length (l2.flatMap UG))(o1:QR l)(o2:E6 l3)(o3:SH l2)(n1:l.length<=9223372036854775807)(n2:l3.length<=9223372036854775807)(n3:l2.length<=9223372036854775807)
include hE hb h1 h2 h3 o1 o2 o3 n1 n2 n3
end
end Go.Proofs.YtnkmbjedcjcccaaGreatDoor
