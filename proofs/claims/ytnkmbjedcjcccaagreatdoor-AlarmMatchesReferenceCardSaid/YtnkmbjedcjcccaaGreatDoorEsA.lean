/-
  Contracts and plain lemmas. By an AI agent.
-/
import Derived.Test.YtnkmbjedcjcccaaGreatDoorQRatC
import Derived.Test.YtnkmbjedcjcccaaGreatDoorQMem
import Derived.Test.YtnkmbjedcjcccaaGreatDoorPlain
set_option linter.all false
namespace Go.Proofs.YtnkmbjedcjcccaaGreatDoor
open Tryz
open Go Go.Eng Go.Proofs Go.Num Go.RowKit
set_option maxRecDepth 100000
def eN:Option Rat->List UInt8
 | some x=>Lib.itoa x.num
 | none=>[]
def eD:Option Rat->List UInt8
 | some x=>Lib.itoa (x.den:Int)
 | none=>[]
def eE:Option Rat->Int
 | some _=>0
 | none=>40
abbrev ov(o:Option Rat):Value:=.agg #[bh (eN o),bh (eD o)]
abbrev ot(o:Option Rat):Value:=.tuple #[ov o,.int .i64 (eE o)]
def OB(o:Option Rat):Prop:=∀ x,o=some x->RB x
theorem OB.some{x:Rat}(h:RB x):OB (some x):=fun _ e=>by cases e;exact h
theorem OB.get{x:Rat}(h:OB (Option.some x)):RB x:=h x rfl
theorem DC(z:Int):Lib.itoa z≠[]:=by
 unfold Lib.itoa;split
 ·simp
 ·exact sU _
theorem Fc(d:List UInt8):¬kB [] d:=by
 rintro⟨x,h,_⟩
 exact DC x.num h.symm
theorem OB.len{o:Option Rat}(h:OB o):(eN o).length<=1000000/\(eD o).length<=1000000:=by
 cases o with
 | none=>exact⟨by decide,by decide⟩
 | some x=>exact⟨cv h.get.n,cv h.get.d⟩
noncomputable def Fe(f:Rat->Rat->R3)(g:Rat->Rat->Rat)(o p:Option Rat):Option Rat:=
 match o,p with
 | some x,some y=>if(f x y).2.2=0 then some (g x y) else none
 | _,_=>none
noncomputable abbrev N2:=Fe ph (fun x y=>x+y)
noncomputable abbrev N3:=Fe pj (fun x y=>x - y)
noncomputable abbrev N4:=Fe rd (fun x y=>x * y)
def R9(f:Rat->Rat->R3)(g:Rat->Rat->Rat):Prop:=∀ x y,f x y=gq\/(f x y=rQ (g x y)/\RB (g x y))
theorem Gz:R9 ph (fun x y=>x+y):=fun x y=>HA x y
theorem GA:R9 pj (fun x y=>x - y):=fun x y=>HB x y
theorem GB:R9 rd (fun x y=>x * y):=fun x y=>HC x y
theorem wA{f:Rat->Rat->R3}{g:Rat->Rat->Rat}(hf:R9 f g){o p:Option Rat}(ho:OB o)(hp:OB p):
 pk f gq (eN o) (eD o) (eN p) (eD p)=(eN (Fe f g o p),eD (Fe f g o p),eE (Fe f g o p)):=by
 cases o with
 | none=>exact jF fun h=>Fc _ h.1
 | some x=>
  cases p with
  | none=>exact jF fun h=>Fc _ h.2
  | some y=>
   refine(mJ ho.get hp.get).trans ?_
   show f x y=_
   have e0:Fe f g (some x) (some y)=if(f x y).2.2=0 then some (g x y) else none:=rfl
   rw[e0]
   rcases hf x y with e | ⟨e,r⟩
   ·rw[e,if_neg (by decide)];rfl
   ·rw[e,if_pos (show(rQ (g x y)).2.2=0 from rfl)];rfl
section
variable{o p:Option Rat}{w:World}(ho:OB o)(hp:OB p)
include ho hp
theorem Qv(hT:kA w):Calls prog 35 #[ov o,ov p] w (bQ fun r w'=>bK w w'/\r=ot (N2 o p)):=by
 have:=OO (w:=w) ho.len.1 ho.len.2 hp.len.1 hp.len.2 hT
 rw[wA Gz ho hp]at this;exact this
theorem Qw(hT:kA w):Calls prog 31 #[ov o,ov p] w (bQ fun r w'=>bK w w'/\r=ot (N3 o p)):=by
 have:=OP (w:=w) ho.len.1 ho.len.2 hp.len.1 hp.len.2 hT
 rw[wA GA ho hp]at this;exact this
theorem Qx(hT:kA w):Calls prog 32 #[ov o,ov p] w (bQ fun r w'=>bK w w'/\r=ot (N4 o p)):=by
 have:=OQ (w:=w) ho.len.1 ho.len.2 hp.len.1 hp.len.2 hT
 rw[wA GB ho hp]at this;exact this
theorem N5:Calls prog 128 #[ov o,ov p] w (bQ fun r w'=>bK w w'/\r=ot (N2 o p)):=by
 have:=NK (w:=w) ho.len.1 ho.len.2 hp.len.1 hp.len.2
 rw[wA Gz ho hp]at this;exact this
theorem N6:Calls prog 88 #[ov o,ov p] w (bQ fun r w'=>bK w w'/\r=ot (N3 o p)):=by
 have:=NL (w:=w) ho.len.1 ho.len.2 hp.len.1 hp.len.2
 rw[wA GA ho hp]at this;exact this
theorem N7:Calls prog 120 #[ov o,ov p] w (bQ fun r w'=>bK w w'/\r=ot (N4 o p)):=by
 have:=NM (w:=w) ho.len.1 ho.len.2 hp.len.1 hp.len.2
 rw[wA GB ho hp]at this;exact this
end
section
variable{o:Option Rat}{w:World}(ho:OB o)
include ho
theorem LK(hT:kA w):Calls prog 72 #[ov o] w (bQ fun r w'=>bK w w'/\r=.bool o.isSome):=by
 have e:xo (eN o) (eD o)=o.isSome:=by
  cases o with
  | none=>exact jd (Fc _)
  | some x=>exact iu (ni.2 ho.get)
 have:=jG (w:=w) ho.len.1 ho.len.2 hT
 rw[e]at this;exact this
end
abbrev Iq(x:Rat):Prop:=SR 99 99 x
theorem Iq.rb{x:Rat}(h:Iq x):RB x:=SR.rb h (by decide) (by decide)
section
variable{x y:Rat}(hx:Iq x)(hy:Iq y)
include hx hy
end
theorem pow_mono{D:Nat}(hD:0 < D)(n:Nat):1<=D ^ n:=Nat.pow_pos hD
section
variable{w:World}{K:Value->World->Prop}{KP:Value->Prop}{c wi:Bool}{a b:List UInt8}
theorem Qy:(a == a && b == b)=true:=by simp
theorem SJ(hk:K (.bool false) w):Bn prog .neq tR c (.agg #[bh a,bh b]) (.agg #[bh a,bh b]) w K:=HQ Qy hk
theorem GC(hk:KP (.bool true)):Dv prog wi (bn .eql tR c (.agg #[bh a,bh b]) (.agg #[bh a,bh b])) w KP:=vk Qy hk
end
end Go.Proofs.YtnkmbjedcjcccaaGreatDoor
