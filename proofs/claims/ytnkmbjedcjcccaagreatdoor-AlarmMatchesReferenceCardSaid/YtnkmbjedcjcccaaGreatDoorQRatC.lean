/-
  Contracts and plain lemmas. By an AI agent.
-/
import Derived.Test.YtnkmbjedcjcccaaGreatDoorQRatB
set_option linter.all false
namespace Go.Proofs.YtnkmbjedcjcccaaGreatDoor
open Tryz
open Go Go.Eng Go.Proofs Go.Num Go.RowKit
set_option maxRecDepth 100000
theorem Gl{x:Int}{w:World}(hx:x.natAbs < cr):Calls prog 130 #[bh [48],bh (Lib.itoa x)] w (bQ fun r w'=>bK w w'/\r=.tuple #[bh (Lib.itoa (-x)),.int .i64 0]):=by
 have:=Jh (w:=w) m0 hx
 rw[wp,Int.zero_sub,ES (by omega)]at this
 exact this
theorem AK{w0 w:World}{g:Nat}{a b a' b':List UInt8}{e:Int}{t:R3}(b4:cM w g tR [bh a',bh b'])(xx:bK w0 w)(hg:w0.heap.size<=g)(h:t=(a,b,e)):
 cL prog tR (pt g) (.agg #[bh a,bh b]) w fun w=>Rc prog tR (pt g) w fun r0=>bQ (fun r w'=>bK w0 w'/\r=rv t) (.returned (.tuple #[r0,.int .i64 e])) w:=by
 subst h
 refine qG b4 fun w2 o2=>?_
 exact bQ.mk ⟨o2.ext xx hg,rfl⟩
theorem iZ{w0 w:World}{g:Nat}{a' b':List UInt8}(b4:cM w g tR [bh a',bh b'])(xx:bK w0 w)(hg:w0.heap.size<=g):
 Bd prog tR [] w fun t w=>cL prog tR (pt g) t w fun w=>Rc prog tR (pt g) w fun r0=>bQ (fun r w'=>bK w0 w'/\r=rv gq) (.returned (.tuple #[r0,.int .i64 40])) w:=
 I5 (AK b4 xx hg rfl)
section
variable{n d m c:List UInt8}{w:World}(hn:n.length<=1000000)(hd:d.length<=1000000)(hm:m.length<=1000000)(hc:c.length<=1000000)
include hn hd
theorem rt{p q:Int}(hp:p.natAbs < cr)(hq:q.natAbs < cr):Calls prog 131 #[bh (Lib.itoa p),bh (Lib.itoa q)] w (bQ fun r w'=>bK w w'/\r=rv (ie p q)):=by
 have ln:=cv hp
 have ld:=cv hq
 have vp:=gZ hp
 have vq:=gZ hq
 by_cases hq0:q=0
 ·have ez:=PX hq0
  have e:ie p q=gq:=by unfold ie;rw[if_pos hq0]
  rw[e]
  apply vG
  unfold qe
  refine tG fun g w1 x1 hg _ b1=>?_
  refine fA cp (qF ln vp) fun w2 x2=>?_
  refine fA cp (qF ld vq) fun w3 x3=>?_
  (refine ct ?_;refine ah ?_;refine ah ?_;refine ct ?_;refine aw ?_;refine ah ?_;refine ah ?_;(refine jw ?_ ?_;focus assumption);refine aw ?_;refine co ?_)
  exact iZ ((b1.ext x2).ext x3) ((x1.tr x2).tr x3) hg
 ·have ez:=Bp hq0
  have hG:(Int.gcd (dU q p) (dU q q):Int)=(Int.gcd p q:Int):=by rw[pN]
  have hg0:=mc (n:=p) hq0
  have hgm:=yD hp hq
  have hsx:(dU q p).natAbs < cr:=by rw[lI];exact hp
  have hsy:(dU q q).natAbs < cr:=by rw[lI];exact hq
  have e:ie p q=R7 p q:=by unfold ie;rw[if_neg hq0,M4 hq0]
  rw[e]
  apply vG
  unfold qe
  refine tG fun g w1 x1 hg _ b1=>?_
  refine fA cp (qF ln vp) fun w2 x2=>?_
  refine fA cp (qF ld vq) fun w3 x3=>?_
  (refine ct ?_;refine ah ?_;refine ah ?_;refine ct ?_;refine aw ?_;refine ah ?_;refine ah ?_;(refine fC ?_ ?_;focus assumption);refine aw ?_;refine cf ?_)
  refine vt.mk ?_
  intro K hK
  have back:∀ W,bK w3 W->K (bh (Lib.itoa (dU q p))) (bh (Lib.itoa (dU q q))) W:=by
   intro W xW
   refine hK _ _ W ?_
   have c1:=Gy (w:=W) hsx hsy
   rw[hG]at c1
   refine pU xB c1 fun W1 y1=>?_
   refine MF lZ (zL hsx hgm (by omega)) fun W2 y2=>?_
   refine MF lZ (zL hsy hgm (by omega)) fun W3 y3=>?_
   ((refine cE ?_ ?_;focus omega);refine ah ?_;refine ah ?_;(refine cE ?_ ?_;focus omega);refine aw ?_;refine cf ?_)
   refine R8 ?_
   exact AK ((((((b1.ext x2).ext x3).ext xW).ext y1).ext y2).ext y3) (((((((x1.tr x2).tr x3).tr xW).tr y1).tr y2)).tr y3) hg rfl
  by_cases hneg:q < 0
  ·have e1:dU q p= -p:=by unfold dU;rw[if_pos hneg]
   have e2:dU q q= -q:=by unfold dU;rw[if_pos hneg]
   rw[e1,e2]at back
   refine fA dp (yE hq (iU hneg)) fun w4 x4=>?_
   ((refine cy ?_ ?_;focus omega);refine co ?_)
   refine pU ox (Gl hp) fun w5 x5=>?_
   refine pU ox (Gl hq) fun w6 x6=>?_
   exact back w6 ((x4.tr x5).tr x6)
  ·have e1:dU q p=p:=by unfold dU;rw[if_neg hneg]
   have e2:dU q q=q:=by unfold dU;rw[if_neg hneg]
   rw[e1,e2]at back
   refine fA dp (yE hq rfl) fun w4 x4=>?_
   have:=tw (x:=q) (y:=0) (by omega)
   ((refine cD ?_ ?_;focus omega);refine cf ?_)
   exact back w4 x4
omit hn hd in
theorem Qe{x y:Int}(hx0: -9223372036854775808<=x)(hx1:x<=9223372036854775807)(hy0: -9223372036854775808<=y)(hy1:y<=9223372036854775807):
 Calls prog 89 #[.int .i64 x,.int .i64 y] w (bQ fun r w'=>bK w w'/\r=rv (ie x y)):=by
 have mx:=EM hx0 hx1
 have my:=EM hy0 hy1
 apply F4
 unfold Aa
 refine tG fun g4 w1 x1 hg4 hg4' b4=>?_
 refine fA qS (AD hx0 hx1) fun w2 x2=>?_
 refine fA qS (AD hy0 hy1) fun w3 x3=>?_
 refine pU kJ (rt (cv mx) (cv my) mx my) fun w4 x4=>?_
 exact AK (((b4.ext x2).ext x3).ext x4) (((x1.tr x2).tr x3).tr x4) hg4 rfl
end
theorem Iv{P:Program}{f:FuncId}{args:Array Value}{w:World}{pan:List PanicEntry->World->Prop}{a b c d:Value}{B:Value->Value->Value->Value->World->Prop}(hn:Enters P f)(h:Calls P f args w (bQ fun r w'=>bK w w'/\r=.tuple #[a,b,c,d]))(hk:∀ w',bK w w'->B a b c d w'):
 Cl P f args w pan (fun t w=>Ex t 0 w fun t1 w=>Ex t 1 w fun t2 w=>Ex t 2 w fun t3 w=>Ex t 3 w fun t4 w=>B t1 t2 t3 t4 w):=
 fA hn h hk
theorem rx(z:Int):nh z=0\/nh z=30:=by unfold nh;split;exact .inl rfl;exact .inr rfl
theorem ry{z:Int}:nh z=0↔z.natAbs < cr:=by unfold nh;split <;> simp[*]
theorem uA{x y:Int}{w:World}(hx:x.natAbs < cr)(hy:y.natAbs < cr):Calls prog 160 #[bh (Lib.itoa x),bh (Lib.itoa y)] w (bQ fun r w'=>bK w w'/\r=.tuple #[bh (uB (x * y)),.int .i64 (nh (x * y))]):=bQ.lit (Ob hx hy) (yB _)
theorem NI{x y:Int}{w:World}(hx:x.natAbs < cr)(hy:y.natAbs < cr):Calls prog 162 #[bh (Lib.itoa x),bh (Lib.itoa y)] w (bQ fun r w'=>bK w w'/\r=.tuple #[bh (uB (x+y)),.int .i64 (nh (x+y))]):=bQ.lit (Oa hx hy) (yB _)
theorem NJ{x y:Int}{w:World}(hx:x.natAbs < cr)(hy:y.natAbs < cr):Calls prog 130 #[bh (Lib.itoa x),bh (Lib.itoa y)] w (bQ fun r w'=>bK w w'/\r=.tuple #[bh (uB (x - y)),.int .i64 (nh (x - y))]):=bQ.lit (Jh hx hy) (yB _)
section
variable{n d m c:List UInt8}{w:World}(hn:n.length<=1000000)(hd:d.length<=1000000)(hm:m.length<=1000000)(hc:c.length<=1000000)
def pV(x y:Rat):Bool:=decide ((x.num * (y.den:Int)).natAbs < cr/\(y.num * (x.den:Int)).natAbs < cr/\((x.den:Int) * (y.den:Int)).natAbs < cr)
theorem Gm{x y:Rat}(hx:RB x)(hy:RB y):Calls prog 129 #[fq x,fq y] w (bQ fun r w'=>bK w w'/\r=.tuple #[bh (uB (x.num * (y.den:Int))),bh (uB (y.num * (x.den:Int))),bh (uB ((x.den:Int) * (y.den:Int))),.bool (pV x y)]):=by
 obtain⟨E1,h1⟩:∃ E,nh (x.num * (y.den:Int))=E:=⟨_,rfl⟩
 obtain⟨E2,h2⟩:∃ E,nh (y.num * (x.den:Int))=E:=⟨_,rfl⟩
 obtain⟨E3,h3⟩:∃ E,nh ((x.den:Int) * (y.den:Int))=E:=⟨_,rfl⟩
 have z1:=rx (x.num * (y.den:Int))
 have z2:=rx (y.num * (x.den:Int))
 have z3:=rx ((x.den:Int) * (y.den:Int))
 have i1:=ry (z:=x.num * (y.den:Int))
 have i2:=ry (z:=y.num * (x.den:Int))
 have i3:=ry (z:=(x.den:Int) * (y.den:Int))
 rw[h1]at z1 i1
 rw[h2]at z2 i2
 rw[h3]at z3 i3
 apply ud
 unfold oT
 refine kT fun g2 w1 x1 hg2 _ b2=>?_
 refine kT fun g3 w2 x2 hg3 _ b3=>?_
 replace b2:=b2.ext x2
 refine kV b2 ?_
 have v1:=eK (w:=w2) (cv hx.n) (cv hx.d)
 rw[iu (ni.2 hx)]at v1
 refine fA cN v1 fun w3 x3=>?_
 replace b2:=b2.ext x3
 replace b3:=b3.ext x3
 refine kV b3 ?_
 have v2:=eK (w:=w3) (cv hy.n) (cv hy.d)
 rw[iu (ni.2 hy)]at v2
 refine fA cN v2 fun w4 x4=>?_
 replace b2:=b2.ext x4
 replace b3:=b3.ext x4
 (refine ct ?_;refine ah ?_;refine ah ?_;refine ct ?_;refine aw ?_;refine cf ?_)
 refine xX b2 (yC b3 ?_)
 have c1:=uA (w:=w4) hx.n hy.d
 rw[h1]at c1
 refine pU jl c1 fun w5 x5=>?_
 replace b2:=b2.ext x5
 replace b3:=b3.ext x5
 refine xX b3 (yC b2 ?_)
 have c2:=uA (w:=w5) hy.n hx.d
 rw[h2]at c2
 refine pU jl c2 fun w6 x6=>?_
 replace b2:=b2.ext x6
 replace b3:=b3.ext x6
 refine yC b2 (yC b3 ?_)
 have c3:=uA (w:=w6) hx.d hy.d
 rw[h3]at c3
 refine pU jl c3 fun w7 x7=>?_
 have xx:=(((((x1.tr x2).tr x3).tr x4).tr x5).tr x6).tr x7
 clear b2 b3 c1 c2 c3 v1 v2 hg2 hg3 x1 x2 x3 x4 x5 x6 x7
 have fin:∀ b:Bool,(E1=0/\E2=0/\E3=0↔b=true)->pV x y=b:=by
  intro b hb
  unfold pV
  cases b with
  | true=>
   obtain⟨a1,a2,a3⟩:=hb.2 rfl
   exact decide_eq_true ⟨i1.1 a1,i2.1 a2,i3.1 a3⟩
  | false=>exact decide_eq_false (fun h=>by have:=hb.1 ⟨i1.2 h.1,i2.2 h.2.1,i3.2 h.2.2⟩;cases this)
 clear i1 i2 i3 h1 h2 h3
 by_cases k1:E1=0
 ·by_cases k2:E2=0
  ·by_cases k3:E3=0
   ·rw[fin true (by simp[k1,k2,k3])]
    ((refine ea ?_ ?_;focus omega);refine aP ?_;refine aP ?_;(refine ea ?_ ?_;focus omega);refine aQ ?_;refine aP ?_;refine aP ?_;(refine ea ?_ ?_;focus omega);refine aQ ?_)
    exact bQ.mk ⟨xx,rfl⟩
   ·rw[fin false (by simp[k3])]
    ((refine ea ?_ ?_;focus omega);refine aP ?_;refine aP ?_;(refine ea ?_ ?_;focus omega);refine aQ ?_;refine aP ?_;refine aP ?_;(refine io ?_ ?_;focus omega);refine aQ ?_)
    exact bQ.mk ⟨xx,rfl⟩
  ·rw[fin false (by simp[k2])]
   ((refine ea ?_ ?_;focus omega);refine aP ?_;refine aP ?_;(refine io ?_ ?_;focus omega);refine aQ ?_;refine aK ?_;refine aK ?_;refine aw ?_)
   exact bQ.mk ⟨xx,rfl⟩
 ·rw[fin false (by simp[k1])]
  ((refine io ?_ ?_;focus omega);refine aK ?_;refine aK ?_;refine aw ?_;refine aK ?_;refine aK ?_;refine aw ?_)
  exact bQ.mk ⟨xx,rfl⟩
include hn hd hm hc
theorem xm(h:¬(kB n d/\kB m c)):Calls prog 129 #[.agg #[bh n,bh d],.agg #[bh m,bh c]] w (bQ fun r w'=>bK w w'/\r=.tuple #[bh [],bh [],bh [],.bool false]):=by
 apply ud
 unfold oT
 refine kT fun g2 w1 x1 hg2 _ b2=>?_
 refine kT fun g3 w2 x2 hg3 _ b3=>?_
 replace b2:=b2.ext x2
 refine kV b2 ?_
 by_cases o1:kB n d
 ·have v1:=eK (w:=w2) hn hd
  rw[iu o1]at v1
  refine fA cN v1 fun w3 x3=>?_
  refine kV (b3.ext x3) ?_
  have v2:=eK (w:=w3) hm hc
  rw[jd (fun h2=>h ⟨o1,h2⟩)]at v2
  refine fA cN v2 fun w4 x4=>?_
  (refine ct ?_;refine ah ?_;refine ah ?_;refine d7 ?_;refine aw ?_;refine co ?_)
  exact bQ.mk ⟨((x1.tr x2).tr x3).tr x4,rfl⟩
 ·have v1:=eK (w:=w2) hn hd
  rw[jd o1]at v1
  refine fA cN v1 fun w3 x3=>?_
  refine kV (b3.ext x3) ?_
  refine fA cN (eK (w:=w3) hm hc) fun w4 x4=>?_
  (refine d7 ?_;refine aR ?_;refine aR ?_;refine aQ ?_;refine co ?_)
  exact bQ.mk ⟨((x1.tr x2).tr x3).tr x4,rfl⟩
end
section
variable{n d m c:List UInt8}{w:World}(hn:n.length<=1000000)(hd:d.length<=1000000)(hm:m.length<=1000000)(hc:c.length<=1000000)
include hn hd hm hc
theorem Iw(h:¬(kB n d/\kB m c)):Calls prog 128 #[.agg #[bh n,bh d],.agg #[bh m,bh c]] w (bQ fun r w'=>bK w w'/\r=rv gq):=by
 apply ow
 unfold l6
 refine kT fun g2 w1 x1 hg2 _ b2=>?_
 refine kT fun g3 w2 x2 hg3 _ b3=>?_
 refine tG fun g4 w3 x3 hg4 _ b4=>?_
 refine kV ((b2.ext x2).ext x3) (kV (b3.ext x3) ?_)
 have xx:=(x1.tr x2).tr x3
 have hw0:w.heap.size<=g4:=by have:=x1.size;have:=x2.size;omega
 refine Iv gp (xm hn hd hm hc h) fun w4 x4=>?_
 (refine d7 ?_;refine co ?_)
 exact iZ (b4.ext x4) (xx.tr x4) hw0
theorem Iy(h:¬(kB n d/\kB m c)):Calls prog 88 #[.agg #[bh n,bh d],.agg #[bh m,bh c]] w (bQ fun r w'=>bK w w'/\r=rv gq):=by
 apply oj
 unfold l4
 refine kT fun g2 w1 x1 hg2 _ b2=>?_
 refine kT fun g3 w2 x2 hg3 _ b3=>?_
 refine tG fun g4 w3 x3 hg4 _ b4=>?_
 refine kV ((b2.ext x2).ext x3) (kV (b3.ext x3) ?_)
 have xx:=(x1.tr x2).tr x3
 have hw0:w.heap.size<=g4:=by have:=x1.size;have:=x2.size;omega
 refine Iv gp (xm hn hd hm hc h) fun w4 x4=>?_
 (refine d7 ?_;refine co ?_)
 exact iZ (b4.ext x4) (xx.tr x4) hw0
theorem Iz(h:¬(kB n d/\kB m c)):Calls prog 120 #[.agg #[bh n,bh d],.agg #[bh m,bh c]] w (bQ fun r w'=>bK w w'/\r=rv gq):=by
 apply xC
 unfold sI
 refine kT fun g2 w1 x1 hg2 _ b2=>?_
 refine kT fun g3 w2 x2 hg3 _ b3=>?_
 refine tG fun g4 w3 x3 hg4 _ b4=>?_
 have xx:=(x1.tr x2).tr x3
 have hw0:w.heap.size<=g4:=by have:=x1.size;have:=x2.size;omega
 refine kV ((b2.ext x2).ext x3) ?_
 replace b3:=b3.ext x3
 by_cases o1:kB n d
 ·have v1:=eK (w:=w3) hn hd
  rw[iu o1]at v1
  refine fA cN v1 fun w4 x4=>?_
  refine kV (b3.ext x4) ?_
  have v2:=eK (w:=w4) hm hc
  rw[jd (fun h2=>h ⟨o1,h2⟩)]at v2
  refine fA cN v2 fun w5 x5=>?_
  (refine ct ?_;refine ah ?_;refine ah ?_;refine d7 ?_;refine aw ?_;refine co ?_)
  exact iZ ((b4.ext x4).ext x5) ((xx.tr x4).tr x5) hw0
 ·have v1:=eK (w:=w3) hn hd
  rw[jd o1]at v1
  refine fA cN v1 fun w4 x4=>?_
  refine kV (b3.ext x4) ?_
  refine fA cN (eK (w:=w4) hm hc) fun w5 x5=>?_
  (refine d7 ?_;refine aR ?_;refine aR ?_;refine aQ ?_;refine co ?_)
  exact iZ ((b4.ext x4).ext x5) ((xx.tr x4).tr x5) hw0
end
section
variable{x y:Rat}{w:World}(hx:RB x)(hy:RB y)
include hx hy
theorem K9:Calls prog 128 #[fq x,fq y] w (bQ fun r w'=>bK w w'/\r=rv (ph x y)):=by
 have c0:=fun w:World=>Gm (w:=w) hx hy
 by_cases k:pV x y=true
 ·rw[k]at c0
  obtain⟨s1,s2,s3⟩:=of_decide_eq_true k
  rw[gh s1,gh s2,gh s3]at c0
  have cA:=fun w:World=>NI (w:=w) s1 s2
  by_cases s4:(x.num * (y.den:Int)+y.num * (x.den:Int)).natAbs < cr
  ·rw[gh s4,Cb s4]at cA
   have e:ph x y=ie (x.num * (y.den:Int)+y.num * (x.den:Int)) ((x.den:Int) * (y.den:Int)):=by
    unfold ph ie;rw[if_pos ⟨⟨s1,s2⟩,s4,s3⟩,if_neg (sW x y),Hh]
   rw[e]
   apply ow
   unfold l6
   refine kT fun g2 w1 x1 hg2 _ b2=>?_
   refine kT fun g3 w2 x2 hg3 _ b3=>?_
   refine tG fun g4 w3 x3 hg4 _ b4=>?_
   refine kV ((b2.ext x2).ext x3) (kV (b3.ext x3) ?_)
   have xx:=(x1.tr x2).tr x3
   have hw0:w.heap.size<=g4:=by have:=x1.size;have:=x2.size;omega
   refine Iv gp (c0 w3) fun w4 x4=>?_
   (refine ct ?_;refine cf ?_)
   refine pU xG (cA w4) fun w5 x5=>?_
   ((refine cE ?_ ?_;focus omega);refine cf ?_)
   refine pU kJ (rt (cv s4) (cv s3) s4 s3) fun w6 x6=>?_
   exact AK (((b4.ext x4).ext x5).ext x6) (((xx.tr x4).tr x5).tr x6) hw0 rfl
  ·rw[yX s4]at cA
   have e:ph x y=gq:=by unfold ph;rw[if_neg (fun h=>s4 h.2.1)]
   rw[e]
   apply ow
   unfold l6
   refine kT fun g2 w1 x1 hg2 _ b2=>?_
   refine kT fun g3 w2 x2 hg3 _ b3=>?_
   refine tG fun g4 w3 x3 hg4 _ b4=>?_
   refine kV ((b2.ext x2).ext x3) (kV (b3.ext x3) ?_)
   have xx:=(x1.tr x2).tr x3
   have hw0:w.heap.size<=g4:=by have:=x1.size;have:=x2.size;omega
   refine Iv gp (c0 w3) fun w4 x4=>?_
   (refine ct ?_;refine cf ?_)
   refine pU xG (cA w4) fun w5 x5=>?_
   ((refine gi ?_ ?_;focus omega);refine co ?_)
   exact iZ ((b4.ext x4).ext x5) ((xx.tr x4).tr x5) hw0
 ·have k':pV x y=false:=by simpa using k
  rw[k']at c0
  have e:ph x y=gq:=by unfold ph;rw[if_neg (fun h=>k (decide_eq_true ⟨h.1.1,h.1.2,h.2.2⟩))]
  rw[e]
  apply ow
  unfold l6
  refine kT fun g2 w1 x1 hg2 _ b2=>?_
  refine kT fun g3 w2 x2 hg3 _ b3=>?_
  refine tG fun g4 w3 x3 hg4 _ b4=>?_
  refine kV ((b2.ext x2).ext x3) (kV (b3.ext x3) ?_)
  have xx:=(x1.tr x2).tr x3
  have hw0:w.heap.size<=g4:=by have:=x1.size;have:=x2.size;omega
  refine Iv gp (c0 w3) fun w4 x4=>?_
  (refine d7 ?_;refine co ?_)
  exact iZ (b4.ext x4) (xx.tr x4) hw0
theorem La:Calls prog 88 #[fq x,fq y] w (bQ fun r w'=>bK w w'/\r=rv (pj x y)):=by
 have c0:=fun w:World=>Gm (w:=w) hx hy
 by_cases k:pV x y=true
 ·rw[k]at c0
  obtain⟨s1,s2,s3⟩:=of_decide_eq_true k
  rw[gh s1,gh s2,gh s3]at c0
  have cA:=fun w:World=>NJ (w:=w) s1 s2
  by_cases s4:(x.num * (y.den:Int) - y.num * (x.den:Int)).natAbs < cr
  ·rw[gh s4,Cb s4]at cA
   have e:pj x y=ie (x.num * (y.den:Int) - y.num * (x.den:Int)) ((x.den:Int) * (y.den:Int)):=by
    unfold pj ie;rw[if_pos ⟨⟨s1,s2⟩,s4,s3⟩,if_neg (sW x y),Hi]
   rw[e]
   apply oj
   unfold l4
   refine kT fun g2 w1 x1 hg2 _ b2=>?_
   refine kT fun g3 w2 x2 hg3 _ b3=>?_
   refine tG fun g4 w3 x3 hg4 _ b4=>?_
   refine kV ((b2.ext x2).ext x3) (kV (b3.ext x3) ?_)
   have xx:=(x1.tr x2).tr x3
   have hw0:w.heap.size<=g4:=by have:=x1.size;have:=x2.size;omega
   refine Iv gp (c0 w3) fun w4 x4=>?_
   (refine ct ?_;refine cf ?_)
   refine pU ox (cA w4) fun w5 x5=>?_
   ((refine cE ?_ ?_;focus omega);refine cf ?_)
   refine pU kJ (rt (cv s4) (cv s3) s4 s3) fun w6 x6=>?_
   exact AK (((b4.ext x4).ext x5).ext x6) (((xx.tr x4).tr x5).tr x6) hw0 rfl
  ·rw[yX s4]at cA
   have e:pj x y=gq:=by unfold pj;rw[if_neg (fun h=>s4 h.2.1)]
   rw[e]
   apply oj
   unfold l4
   refine kT fun g2 w1 x1 hg2 _ b2=>?_
   refine kT fun g3 w2 x2 hg3 _ b3=>?_
   refine tG fun g4 w3 x3 hg4 _ b4=>?_
   refine kV ((b2.ext x2).ext x3) (kV (b3.ext x3) ?_)
   have xx:=(x1.tr x2).tr x3
   have hw0:w.heap.size<=g4:=by have:=x1.size;have:=x2.size;omega
   refine Iv gp (c0 w3) fun w4 x4=>?_
   (refine ct ?_;refine cf ?_)
   refine pU ox (cA w4) fun w5 x5=>?_
   ((refine gi ?_ ?_;focus omega);refine co ?_)
   exact iZ ((b4.ext x4).ext x5) ((xx.tr x4).tr x5) hw0
 ·have k':pV x y=false:=by simpa using k
  rw[k']at c0
  have e:pj x y=gq:=by unfold pj;rw[if_neg (fun h=>k (decide_eq_true ⟨h.1.1,h.1.2,h.2.2⟩))]
  rw[e]
  apply oj
  unfold l4
  refine kT fun g2 w1 x1 hg2 _ b2=>?_
  refine kT fun g3 w2 x2 hg3 _ b3=>?_
  refine tG fun g4 w3 x3 hg4 _ b4=>?_
  refine kV ((b2.ext x2).ext x3) (kV (b3.ext x3) ?_)
  have xx:=(x1.tr x2).tr x3
  have hw0:w.heap.size<=g4:=by have:=x1.size;have:=x2.size;omega
  refine Iv gp (c0 w3) fun w4 x4=>?_
  (refine d7 ?_;refine co ?_)
  exact iZ (b4.ext x4) (xx.tr x4) hw0
theorem Lb:Calls prog 120 #[fq x,fq y] w (bQ fun r w'=>bK w w'/\r=rv (rd x y)):=by
 obtain⟨E1,h1⟩:∃ E,nh (x.num * y.num)=E:=⟨_,rfl⟩
 obtain⟨E2,h2⟩:∃ E,nh ((x.den:Int) * (y.den:Int))=E:=⟨_,rfl⟩
 have z1:=rx (x.num * y.num)
 have z2:=rx ((x.den:Int) * (y.den:Int))
 have i1:=ry (z:=x.num * y.num)
 have i2:=ry (z:=(x.den:Int) * (y.den:Int))
 rw[h1]at z1 i1
 rw[h2]at z2 i2
 have e0:¬(E1=0/\E2=0)->rd x y=gq:=by
  intro h;unfold rd;rw[if_neg (fun k:NX x y=>h ⟨i1.2 k.1,i2.2 k.2⟩)]
 apply xC
 unfold sI
 refine kT fun g2 w1 x1 hg2 _ b2=>?_
 refine kT fun g3 w2 x2 hg3 _ b3=>?_
 refine tG fun g4 w3 x3 hg4 _ b4=>?_
 have xx:=(x1.tr x2).tr x3
 have hw0:w.heap.size<=g4:=by have:=x1.size;have:=x2.size;omega
 replace b2:=(b2.ext x2).ext x3
 replace b3:=b3.ext x3
 refine kV b2 ?_
 have v1:=eK (w:=w3) (cv hx.n) (cv hx.d)
 rw[iu (ni.2 hx)]at v1
 refine fA cN v1 fun w4 x4=>?_
 replace b2:=b2.ext x4
 replace b3:=b3.ext x4
 replace b4:=b4.ext x4
 refine kV b3 ?_
 have v2:=eK (w:=w4) (cv hy.n) (cv hy.d)
 rw[iu (ni.2 hy)]at v2
 refine fA cN v2 fun w5 x5=>?_
 replace b2:=b2.ext x5
 replace b3:=b3.ext x5
 replace b4:=b4.ext x5
 (refine ct ?_;refine ah ?_;refine ah ?_;refine ct ?_;refine aw ?_;refine cf ?_)
 refine xX b2 (xX b3 ?_)
 have c1:=uA (w:=w5) hx.n hy.n
 rw[h1]at c1
 refine pU jl c1 fun w6 x6=>?_
 replace b2:=b2.ext x6
 replace b3:=b3.ext x6
 replace b4:=b4.ext x6
 refine yC b2 (yC b3 ?_)
 have c2:=uA (w:=w6) hx.d hy.d
 rw[h2]at c2
 refine pU jl c2 fun w7 x7=>?_
 replace b4:=b4.ext x7
 replace xx:=(((xx.tr x4).tr x5).tr x6).tr x7
 clear b2 b3 v1 v2 c1 c2 x1 x2 x3 x4 x5 x6 x7 hg2 hg3 hg4
 by_cases k1:E1=0
 ·by_cases k2:E2=0
  ·have s1:=i1.1 k1
   have s2:=i2.1 k2
   clear i1 i2 h1 h2 e0
   have e:rd x y=ie (x.num * y.num) ((x.den:Int) * (y.den:Int)):=by unfold rd ie;rw[if_pos ⟨s1,s2⟩,if_neg (sW x y),Hj]
   have cm:=rt (w:=w7) (cv s1) (cv s2) s1 s2
   rw[<-e]at cm
   ((refine cE ?_ ?_;focus omega);refine ah ?_;refine ah ?_;(refine cE ?_ ?_;focus omega);refine aw ?_;refine cf ?_)
   rw[gh s1,gh s2]
   clear s1 s2 z1 z2
   refine pU kJ cm fun w8 x8=>?_
   exact AK (b4.ext x8) (xx.tr x8) hw0 rfl
  ·rw[e0 (fun h=>k2 h.2)]
   clear i1 i2 h1 h2 e0
   ((refine cE ?_ ?_;focus omega);refine ah ?_;refine ah ?_;(refine gi ?_ ?_;focus omega);refine aw ?_;refine co ?_)
   exact iZ b4 xx hw0
 ·rw[e0 (fun h=>k1 h.1)]
  clear i1 i2 h1 h2 e0
  ((refine gi ?_ ?_;focus omega);refine aR ?_;refine aR ?_;refine aQ ?_;refine co ?_)
  exact iZ b4 xx hw0
end
theorem Dp{r:Int}{w:World}:Calls prog 86 #[bh (Lib.itoa r)] w (bQ fun v w'=>bK w w'/\v=bh (Lib.itoa (if r=0 then 0 else 1))):=by
 by_cases h:r=0
 ·have e:=PX h
  rw[if_pos h]
  apply sE
  unfold nG
  ((refine jw ?_ ?_;focus assumption);refine co ?_)
  refine bQ.mk ⟨.refl _,?_⟩
  rw[h]
 ·have e:=Bp h
  rw[if_neg h,l1]
  apply sE
  unfold nG
  ((refine fC ?_ ?_;focus assumption);refine cf ?_)
  exact bQ.mk ⟨.refl _,rfl⟩
theorem Hx{p q m c:Int}(hq:0 < q)(hc:0 < c)(h:p / q=m / c)(hz:p % q=0\/m % c=0):vd p q m c=dK (if p % q=0 then 0 else 1) (if m % c=0 then 0 else 1):=by
 by_cases h1:p % q=0
 ·by_cases h2:m % c=0
  ·rw[Gu h h1 h2,if_pos h1,if_pos h2];rfl
  ·rw[Gv hq hc h h1 h2,if_pos h1,if_neg h2];rfl
 ·have h2:m % c=0:=by omega
  rw[Gw hq hc h h1 h2,if_neg h1,if_pos h2];rfl
set_option maxHeartbeats 2000000 in
theorem Lc{x y:Rat}{w:World}(hx:RB x)(hy:RB y):Calls prog 48 #[fq x,fq y] w (bQ fun r w'=>bK w w'/\r=.int .i64 (ig x y)):=by
 apply yd
 unfold qL
 refine kT fun g2 w1 x1 hg2 _ b2=>?_
 refine kT fun g3 w2 x2 hg3 _ b3=>?_
 replace b2:=b2.ext x2
 refine kV b2 ?_
 have v1:=eK (w:=w2) (cv hx.n) (cv hx.d)
 rw[iu (ni.2 hx)]at v1
 refine fA cN v1 fun w4 x4=>?_
 replace b2:=b2.ext x4
 replace b3:=b3.ext x4
 refine kV b3 ?_
 have v2:=eK (w:=w4) (cv hy.n) (cv hy.d)
 rw[iu (ni.2 hy)]at v2
 refine fA cN v2 fun w5 x5=>?_
 replace b2:=b2.ext x5
 replace b3:=b3.ext x5
 (refine ct ?_;refine ah ?_;refine ah ?_;refine ct ?_;refine aw ?_;refine cf ?_)
 refine xX b2 (yC b2 (xX b3 (yC b3 ?_)))
 have xx:=((x1.tr x2).tr x4).tr x5
 clear v1 v2 x1 x2 x4 x5 b2 b3 hg2 hg3
 obtain⟨I,hI⟩:∃ I:Value->Value->Value->Value->Value->World->Prop,I=(fun i a b e f W=>∃ σ p q m c:Int,(σ=1\/σ= -1)/\i=.int .i64 σ/\bK w W/\a=bh (Lib.itoa p)/\b=bh (Lib.itoa q)/\e=bh (Lib.itoa m)/\f=bh (Lib.itoa c)/\
  p.natAbs < cr/\(0 < q/\q.natAbs < cr)/\m.natAbs < cr/\(0 < c/\c.natAbs < cr)/\σ * vd p q m c=ig x y):=⟨_,rfl⟩
 obtain⟨μ,hμ⟩:∃ μ:Value->Value->Value->Value->Value->World->Nat,μ=(fun _ _ b _ _ _=>match b with | .string s=>(rz s.data.toList).toNat | _=>0):=⟨_,rfl⟩
 have hμ':∀(a b c d:Value) (W:World) (q:Int),q.natAbs < cr->μ a b (bh (Lib.itoa q)) c d W=q.toNat:=by
  intro a b c d W q hq
  rw[hμ]
  show(rz (Lib.itoa q)).toNat=_
  rw[jc hq]
 refine Sk.mk I μ (by rw[hI];exact⟨1,_,_,_,_,.inl rfl,rfl,xx,rfl,rfl,rfl,rfl,hx.n,⟨den_pos x,hx.d⟩,hy.n,⟨den_pos y,hy.d⟩,by rw[Int.one_mul];rfl⟩) ?_
 intro i a b e f W hh
 rw[hI]at hh
 obtain⟨σ,p,q,m,c,hσ,rfl,xW,rfl,rfl,rfl,rfl,hp,⟨hq0,hq⟩,hm,⟨hc0,hc⟩,hz⟩:=hh
 refine MF lZ (zL hp hq (by omega)) fun w5 x5=>?_
 refine MF lZ (zL hm hc (by omega)) fun w6 x6=>?_
 by_cases hpm:p / q=m / c
 ·refine fA dp (gK (je hp) (je hm) (qD hpm)) fun w7 x7=>?_
  replace xW:=((xW.tr x5).tr x6).tr x7
  clear x5 x6 x7
  have fin:p % q=0\/m % c=0->Cl prog 86 #[bh (Lib.itoa (p % q))] w7 (Pk (bQ fun r w'=>bK w w'/\r=.int .i64 (ig x y))) fun t67 w_1=>
   Cl prog 86 #[bh (Lib.itoa (m % c))] w_1 (Pk (bQ fun r w'=>bK w w'/\r=.int .i64 (ig x y))) fun t69 w_1=>
   Cl prog 85 #[t67,t69] w_1 (Pk (bQ fun r w'=>bK w w'/\r=.int .i64 (ig x y))) fun t70 w_1=>
   Bn prog .mul 3 false (.int .i64 σ) t70 w_1 fun t71 w_1=>bQ (fun r w'=>bK w w'/\r=.int .i64 (ig x y)) (.returned t71) w_1:=by
   intro hh
   have hcz:=Hx hq0 hc0 hpm hh
   have hrng:=uC (if p % q=0 then 0 else 1) (if m % c=0 then 0 else 1)
   obtain⟨u,hu⟩:∃ u:Int,u=if p % q=0 then 0 else 1:=⟨_,rfl⟩
   obtain⟨v,hv⟩:∃ v:Int,v=if m % c=0 then 0 else 1:=⟨_,rfl⟩
   have mu:u.natAbs < cr:=by rw[hu];split;exact m0;exact m1
   have mv:v.natAbs < cr:=by rw[hv];split;exact m0;exact m1
   rw[<-hu,<-hv]at hcz hrng
   have c1:=Dp (r:=p % q) (w:=w7)
   rw[<-hu]at c1
   refine fA sG c1 fun w8 x8=>?_
   have c2:=Dp (r:=m % c) (w:=w8)
   rw[<-hv]at c2
   refine fA sG c2 fun w9 x9=>?_
   refine fA dp (gK mu mv rfl) fun wa xa=>?_
   obtain⟨κ,hκ⟩:∃ κ,κ=dK u v:=⟨_,rfl⟩
   rw[<-hκ]at hrng hcz ⊢
   have hb: -1<=σ * κ/\σ * κ<=1:=by
    rcases hσ with rfl | rfl <;> rcases hrng with h | h | h <;> rw[h] <;> decide
   refine BT (by omega) (by omega) ?_
   refine bQ.mk ⟨((xW.tr x8).tr x9).tr xa,?_⟩
   rw[<-hz,hcz]
  by_cases hr:p % q=0
  ·have er:=PX hr
   ((refine cE ?_ ?_;focus omega);refine cf ?_;(refine jw ?_ ?_;focus assumption);refine aR ?_;refine aR ?_;refine aQ ?_;refine co ?_)
   exact fin (.inl hr)
  ·have er:=Bp hr
   by_cases hs:m % c=0
   ·have es:=PX hs
    ((refine cE ?_ ?_;focus omega);refine cf ?_;(refine fC ?_ ?_;focus assumption);refine ah ?_;refine ah ?_;(refine jw ?_ ?_;focus assumption);refine aw ?_;refine co ?_)
    exact fin (.inr hs)
   ·have es:=Bp hs
    ((refine cE ?_ ?_;focus omega);refine cf ?_;(refine fC ?_ ?_;focus assumption);refine ah ?_;refine ah ?_;(refine fC ?_ ?_;focus assumption);refine aw ?_;refine cf ?_)
    refine Nn (t:=3) (by omega) (by omega) ?_
    have hr1:=Int.emod_nonneg p (show q≠0 by omega)
    have hr2:=Int.emod_lt_of_pos p hq0
    have hs1:=Int.emod_nonneg m (show c≠0 by omega)
    refine⟨?_,?_⟩
    ·rw[hI]
     refine⟨-σ,q,p % q,c,m % c,by omega,rfl,xW,rfl,rfl,rfl,rfl,hq,⟨by omega,nz hq0 hq⟩,hc,⟨by omega,nz hc0 hc⟩,?_⟩
     rw[<-hz,Gx hpm];rw[Int.neg_mul,Int.mul_neg]
    ·rw[hμ' _ _ _ _ _ _ hq,hμ' _ _ _ _ _ _ (nz hq0 hq)]
     omega
 ·have hcmp:=Dx hq0 hc0 hpm
  have hrng:=uC (p / q) (m / c)
  have hne0:dK (p / q) (m / c)≠0:=fun h=>hpm (Bw h)
  refine fA dp (gK (je hp) (je hm) rfl) fun w7 x7=>?_
  obtain⟨κ,hκ⟩:∃ κ,κ=dK (p / q) (m / c):=⟨_,rfl⟩
  rw[<-hκ]at hrng hne0 hcmp ⊢
  have hb: -1<=σ * κ/\σ * κ<=1:=by
   rcases hσ with rfl | rfl <;> rcases hrng with h | h | h <;> rw[h] <;> decide
  ((refine gi ?_ ?_;focus omega);refine co ?_)
  refine BT (by omega) (by omega) ?_
  refine bQ.mk ⟨((xW.tr x5).tr x6).tr x7,?_⟩
  rw[<-hz,hcmp]
section
variable{n d m c:List UInt8}{w:World}(hn:n.length<=1000000)(hd:d.length<=1000000)(hm:m.length<=1000000)(hc:c.length<=1000000)
include hn hd hm hc
theorem NK:Calls prog 128 #[.agg #[bh n,bh d],.agg #[bh m,bh c]] w (bQ fun r w'=>bK w w'/\r=rv (pk ph gq n d m c)):=by
 by_cases h:kB n d/\kB m c
 ·obtain⟨⟨x,rfl,rfl,hx⟩,⟨y,rfl,rfl,hy⟩⟩:=h
  rw[mJ hx hy];exact K9 hx hy
 ·rw[jF h];exact Iw hn hd hm hc h
theorem NL:Calls prog 88 #[.agg #[bh n,bh d],.agg #[bh m,bh c]] w (bQ fun r w'=>bK w w'/\r=rv (pk pj gq n d m c)):=by
 by_cases h:kB n d/\kB m c
 ·obtain⟨⟨x,rfl,rfl,hx⟩,⟨y,rfl,rfl,hy⟩⟩:=h
  rw[mJ hx hy];exact La hx hy
 ·rw[jF h];exact Iy hn hd hm hc h
theorem NM:Calls prog 120 #[.agg #[bh n,bh d],.agg #[bh m,bh c]] w (bQ fun r w'=>bK w w'/\r=rv (pk rd gq n d m c)):=by
 by_cases h:kB n d/\kB m c
 ·obtain⟨⟨x,rfl,rfl,hx⟩,⟨y,rfl,rfl,hy⟩⟩:=h
  rw[mJ hx hy];exact Lb hx hy
 ·rw[jF h];exact Iz hn hd hm hc h
end
end Go.Proofs.YtnkmbjedcjcccaaGreatDoor
