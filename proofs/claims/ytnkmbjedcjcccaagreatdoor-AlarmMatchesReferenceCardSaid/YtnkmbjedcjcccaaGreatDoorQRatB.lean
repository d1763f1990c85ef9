/-
  Contracts and plain lemmas. By an AI agent.
-/
import Derived.Test.YtnkmbjedcjcccaaGreatDoorQRatA
set_option linter.all false
namespace Go.Proofs.YtnkmbjedcjcccaaGreatDoor
open Tryz
open Go Go.Eng Go.Proofs Go.Num Go.RowKit
set_option maxRecDepth 100000
theorem Tg{w:World}{g:Nat}{a b:List UInt8}{rest:Prop}(h:cM w g tR [bh a,bh b])(hk:rest):Ke prog (Instr.loadAt tS (.pointer (some ⟨g,0,none⟩))) (bh a) w rest:=by
 (repeat (first|simp -dsimp[go_sem,h.cell (i:=0) rfl]|simp -dsimp (disch:=omega)only[gL,gI]))
 exact hk
theorem QV{w:World}{g:Nat}{a b:List UInt8}{rest:Prop}(h:cM w g tR [bh a,bh b])(hk:rest):Ke prog (Instr.loadAt tS (.pointer (some ⟨g,1,none⟩))) (bh b) w rest:=by
 (repeat (first|simp -dsimp[go_sem,h.cell (i:=1) rfl]|simp -dsimp (disch:=omega)only[gL,gI]))
 exact hk
theorem QW{w:World}{g:Nat}{KP:Value->Prop}(hk:KP (.pointer (some ⟨g,0,none⟩))):Dv prog true (Instr.fieldAt tR (pt g) 0) w.drew KP:=by
 (repeat (first|simp -dsimp[go_sem]|simp -dsimp (disch:=omega)only[gL,gI]))
 exact hk
theorem L4{w:World}{g:Nat}{KP:Value->Prop}(hk:KP (.pointer (some ⟨g,1,none⟩))):Dv prog true (Instr.fieldAt tR (pt g) 1) w.drew KP:=by
 (repeat (first|simp -dsimp[go_sem]|simp -dsimp (disch:=omega)only[gL,gI]))
 exact hk
theorem QX{w:World}{g:Nat}{a b:List UInt8}{KP:Value->Prop}(h:cM w g tR [bh a,bh b])(hk:KP (bh a)):Dv prog false (Instr.loadAt tS (.pointer (some ⟨g,0,none⟩))) w.drew KP:=by
 have h1:w.drew.cell? ⟨g,0,none⟩=some (bh a):=h.cell (i:=0) rfl
 (repeat (first|simp -dsimp[go_sem,h1]|simp -dsimp (disch:=omega)only[gL,gI]))
 exact hk
theorem L5{w:World}{g:Nat}{a b:List UInt8}{KP:Value->Prop}(h:cM w g tR [bh a,bh b])(hk:KP (bh b)):Dv prog false (Instr.loadAt tS (.pointer (some ⟨g,1,none⟩))) w.drew KP:=by
 have h1:w.drew.cell? ⟨g,1,none⟩=some (bh b):=h.cell (i:=1) rfl
 (repeat (first|simp -dsimp[go_sem,h1]|simp -dsimp (disch:=omega)only[gL,gI]))
 exact hk
section
variable{n d m c:List UInt8}{w:World}(hn:n.length<=1000000)(hd:d.length<=1000000)(hm:m.length<=1000000)(hc:c.length<=1000000)(hT:kA w)
include hn hd hm hc hT
theorem Nm{fop:FuncId}{f:Int->Int->Int}{F:Rat->Rat->Rat}{Q:Rat->Rat->R3}(hno:Enters prog fop)
 (hop:∀ {p q:List UInt8} {w:World},p.length<=1000000->q.length<=1000000->kA w->Calls prog fop #[bh p,bh q] w (bQ fun r w'=>bK w w'/\r=.tuple #[bh (lw f p q),.int .i64 (me f p q)]))
 (hQ1:∀ x y,Bv f x y->Q x y=rQ (F x y)) (hQ0:∀ x y,¬Bv f x y->Q x y=gq)
 (hF:∀ x y:Rat,((f (x.num * (y.den:Int)) (y.num * (x.den:Int)):Int):Rat) / (((x.den:Int) * (y.den:Int):Int):Rat)=F x y):
 Calls prog 67 #[.func (.func fop) #[] #[],.agg #[bh n,bh d],.agg #[bh m,bh c]] w (bQ fun r w'=>bK w w'/\r=rv (pk Q gq n d m c)):=by
 apply z8
 unfold sC
 refine kT fun g4 w1 x1 hg4 hg4' b4=>?_
 refine kT fun g5 w2 x2 hg5 hg5' b5=>?_
 refine tG fun g6 w3 x3 hg6 hg6' b6=>?_
 refine Qr ?_
 refine LF fun g w4 x4 hg hgl h=>?_
 have xx:=((x1.tr x2).tr x3).tr x4
 have sz:=x1.size
 have sz2:=x2.size
 have sz3:=x3.size
 have hw0:w.heap.size<=g:=by omega
 have n4:g4≠g:=by omega
 have n5:g5≠g:=by omega
 have n6:g6≠g:=by omega
 have hw06:w.heap.size<=g6:=by omega
 replace b4:=((b4.ext x2).ext x3).ext x4
 replace b5:=(b5.ext x3).ext x4
 replace b6:=b6.ext x4
 refine kV b4 ?_
 refine kV b5 ?_
 refine Qs fun s w5 x5 hs b7=>?_
 have h5:=h.ext x5
 have hgT:∀ W,Own g w5 W->kA W:=fun W o=>hT.ext (o.ext (xx.tr x5) hw0)
 refine cu ei (yF h5 b7 (by omega) rfl (by decide) (by
  intro x hx
  simp only[List.mem_cons,List.not_mem_nil,or_false]at hx
  rcases hx with rfl | rfl
  ·exact⟨hn,hd⟩
  ·exact⟨hm,hc⟩) (hT.ext (xx.tr x5)) hgT) ?_
 rintro _ w6 ⟨rfl,o6,h6⟩
 obtain⟨b0,e0⟩:∃ b0,b0=AO n d m c:=⟨_,rfl⟩
 have e0':(false || [(n,d),(m,c)].any fun x=>!xo x.1 x.2)=b0:=by rw[e0];simp[AO]
 rw[e0']at h6
 replace b4:=dP (b4.ext x5) n4 o6
 replace b5:=dP (b5.ext x5) n5 o6
 replace b6:=dP (b6.ext x5) n6 o6
 refine QW (QX b4 (L4 (L5 b5 (QW (QX b5 (L4 (L5 b4 ?_)))))))
 have o6d:Own g w5 w6.drew:=⟨o6.below.drew,o6.other⟩
 obtain⟨n1,e1⟩:∃ n1,n1=Ce b0 (lw (fun a b=>a * b) n c):=⟨_,rfl⟩
 obtain⟨b1,f1⟩:∃ b1,b1=Dk b0 (me (fun a b=>a * b) n c):=⟨_,rfl⟩
 have l1:n1.length<=1000000:=by rw[e1];exact Cf (yY _ _ _)
 have c1:=wz (w:=w6.drew) h6 hn hc (hgT _ o6d)
 rw[<-e1,<-f1]at c1
 refine cu eP c1 ?_
 rintro _ w7 ⟨rfl,o7,h7⟩
 have q4:cM w7 g4 tR [bh n,bh d]:=dP (W:=w6.drew) b4 n4 o7
 have q5:cM w7 g5 tR [bh m,bh c]:=dP (W:=w6.drew) b5 n5 o7
 have q6:cM w7 g6 tR [bh [],bh []]:=dP (W:=w6.drew) b6 n6 o7
 replace o7:Own g w5 w7:=o6d.trans o7
 refine Tg q5 (QV q4 ?_)
 obtain⟨n2,e2⟩:∃ n2,n2=Ce b1 (lw (fun a b=>a * b) m d):=⟨_,rfl⟩
 obtain⟨b2,f2⟩:∃ b2,b2=Dk b1 (me (fun a b=>a * b) m d):=⟨_,rfl⟩
 have l2:n2.length<=1000000:=by rw[e2];exact Cf (yY _ _ _)
 have c2:=wz (w:=w7) h7 hm hd (hgT _ o7)
 rw[<-e2,<-f2]at c2
 refine cu eP c2 ?_
 rintro _ w8 ⟨rfl,o8,h8⟩
 replace q4:=dP q4 n4 o8
 replace q5:=dP q5 n5 o8
 replace q6:=dP q6 n6 o8
 replace o8:=o7.trans o8
 obtain⟨n3,e3⟩:∃ n3,n3=Ce b2 (lw f n1 n2):=⟨_,rfl⟩
 obtain⟨b3,f3⟩:∃ b3,b3=Dk b2 (me f n1 n2):=⟨_,rfl⟩
 have c3:=I9 (w:=w8) h8 hno (hop l1 l2 (hgT _ o8))
 rw[<-e3,<-f3]at c3
 refine cu eG c3 ?_
 rintro _ w9 ⟨rfl,o9,h9⟩
 replace q4:=dP q4 n4 o9
 replace q5:=dP q5 n5 o9
 replace q6:=dP q6 n6 o9
 replace o9:=o8.trans o9
 refine yC q4 (yC q5 ?_)
 obtain⟨nn,e4⟩:∃ nn,nn=Ce b3 (lw (fun a b=>a * b) d c):=⟨_,rfl⟩
 obtain⟨bb,f4⟩:∃ bb,bb=Dk b3 (me (fun a b=>a * b) d c):=⟨_,rfl⟩
 have c4:=wz (w:=w9) h9 hd hc (hgT _ o9)
 rw[<-e4,<-f4]at c4
 refine cu eP c4 ?_
 rintro _ wa ⟨rfl,oa,ha⟩
 replace q6:=dP q6 n6 oa
 replace oa:=o9.trans oa
 refine cu dH (LJ hQ1 hQ0 hF e0 e1 f1 e2 f2 e3 f3 e4 f4 ha (fun W o=>hgT W (oa.trans o))) ?_
 rintro _ wb ⟨ob,rfl⟩
 refine gN (qG (dP q6 n6 ob) fun wc oc=>?_)
 exact bQ.mk ⟨oc.ext ((oa.trans ob).ext (xx.tr x5) hw0) hw06,rfl⟩
theorem OO:Calls prog 35 #[.agg #[bh n,bh d],.agg #[bh m,bh c]] w (bQ fun r w'=>bK w w'/\r=rv (pk ph gq n d m c)):=by
 apply z7
 unfold sA
 refine kT fun g2 w1 x1 hg2 hg2' b2=>?_
 refine kT fun g3 w2 x2 hg3 hg3' b3=>?_
 refine tG fun g4 w3 x3 hg4 hg4' b4=>?_
 refine kV ((b2.ext x2).ext x3) (kV (b3.ext x3) ?_)
 have xx:=(x1.tr x2).tr x3
 have hw0:w.heap.size<=g4:=by have:=x1.size;have:=x2.size;omega
 refine pU sD (Nm hn hd hm hc (hT.ext xx) tV (f:=fun a b=>a+b) (F:=fun x y=>x+y) (Q:=ph) M3 (fun x y h=>by unfold ph;rw[if_pos h]) (fun x y h=>by unfold ph;rw[if_neg h]) Hh) fun w4 x4=>?_
 refine qG (b4.ext x4) fun w5 o5=>?_
 exact bQ.mk ⟨o5.ext (xx.tr x4) hw0,rfl⟩
theorem OP:Calls prog 31 #[.agg #[bh n,bh d],.agg #[bh m,bh c]] w (bQ fun r w'=>bK w w'/\r=rv (pk pj gq n d m c)):=by
 apply zY
 unfold se
 refine kT fun g2 w1 x1 hg2 hg2' b2=>?_
 refine kT fun g3 w2 x2 hg3 hg3' b3=>?_
 refine tG fun g4 w3 x3 hg4 hg4' b4=>?_
 refine kV ((b2.ext x2).ext x3) (kV (b3.ext x3) ?_)
 have xx:=(x1.tr x2).tr x3
 have hw0:w.heap.size<=g4:=by have:=x1.size;have:=x2.size;omega
 refine pU sD (Nm hn hd hm hc (hT.ext xx) oM (f:=fun a b=>a - b) (F:=fun x y=>x - y) (Q:=pj) Qn (fun x y h=>by unfold pj;rw[if_pos h]) (fun x y h=>by unfold pj;rw[if_neg h]) Hi) fun w4 x4=>?_
 refine qG (b4.ext x4) fun w5 o5=>?_
 exact bQ.mk ⟨o5.ext (xx.tr x4) hw0,rfl⟩
end
theorem L6{w:World}{g:Nat}{n d m c p q r s:List UInt8}{Q:Rat->Rat->R3}{A B:Rat->Rat->Int}(hgT:∀ W,Own g w W->kA W)
 (hok:∀ x y:Rat,RB x->RB y->n=Lib.itoa x.num->d=Lib.itoa (x.den:Int)->m=Lib.itoa y.num->c=Lib.itoa (y.den:Int)->
  lw (fun a b=>a * b) p q=uB (A x y)/\me (fun a b=>a * b) p q=nh (A x y)/\lw (fun a b=>a * b) r s=uB (B x y)/\me (fun a b=>a * b) r s=nh (B x y))
 (hQ1:∀ x y,(A x y).natAbs < cr->(B x y).natAbs < cr->Q x y=ie (A x y) (B x y)) (hQ0:∀ x y,¬((A x y).natAbs < cr/\(B x y).natAbs < cr)->Q x y=gq)
 {b0 b1 b2:Bool} {n1 n2:List UInt8} (e0:b0=AO n d m c)
 (e1:n1=Ce b0 (lw (fun a b=>a * b) p q)) (f1:b1=Dk b0 (me (fun a b=>a * b) p q))
 (e2:n2=Ce b1 (lw (fun a b=>a * b) r s)) (f2:b2=Dk b1 (me (fun a b=>a * b) r s))
 (h:cM w g tW [.bool b2]):Calls prog 71 #[pt g,bh n1,bh n2] w (bQ (Jb g w (pk Q gq n d m c))):=by
 by_cases ok:kB n d/\kB m c
 ·rw[Je ok]at e0
  obtain⟨⟨x,hn,hd,hx⟩,⟨y,hm,hc,hy⟩⟩:=ok
  obtain⟨a1,a2,a3,a4⟩:=hok x y hx hy hn hd hm hc
  have e:pk Q gq n d m c=Q x y:=by rw[hn,hd,hm,hc];exact mJ hx hy
  rw[e]
  subst e0
  rw[a2,lS]at f1
  rw[a1,xq]at e1
  by_cases s1:(A x y).natAbs < cr
  ·rw[decide_eq_true s1]at f1
   subst f1
   rw[gh s1]at e1
   rw[Bool.not_true,a4,lS]at f2
   rw[Bool.not_true,a3,xq]at e2
   by_cases s2:(B x y).natAbs < cr
   ·rw[decide_eq_true s2]at f2
    rw[gh s2]at e2
    subst f2;subst e1;subst e2
    rw[hQ1 x y s1 s2]
    exact td h s1 s2 hgT
   ·rw[decide_eq_false s2]at f2
    subst f2
    rw[hQ0 x y (fun h=>s2 h.2)]
    exact ej h
  ·rw[decide_eq_false s1]at f1
   subst f1;subst f2
   rw[hQ0 x y (fun h=>s1 h.1)]
   exact ej h
 ·rw[jF ok]
  rw[Jf ok]at e0
  subst e0;subst f1;subst f2
  exact ej h
section
variable{n d m c:List UInt8}{w:World}(hn:n.length<=1000000)(hd:d.length<=1000000)(hm:m.length<=1000000)(hc:c.length<=1000000)(hT:kA w)
include hn hd hm hc hT
theorem OQ:Calls prog 32 #[.agg #[bh n,bh d],.agg #[bh m,bh c]] w (bQ fun r w'=>bK w w'/\r=rv (pk rd gq n d m c)):=by
 apply zZ
 unfold sj
 refine kT fun g4 w1 x1 hg4 hg4' b4=>?_
 refine kT fun g5 w2 x2 hg5 hg5' b5=>?_
 refine tG fun g6 w3 x3 hg6 hg6' b6=>?_
 refine Qr ?_
 refine LF fun g w4 x4 hg hgl h=>?_
 have xx:=((x1.tr x2).tr x3).tr x4
 have sz:=x1.size
 have sz2:=x2.size
 have sz3:=x3.size
 have hw0:w.heap.size<=g:=by omega
 have n4:g4≠g:=by omega
 have n5:g5≠g:=by omega
 have n6:g6≠g:=by omega
 have hw06:w.heap.size<=g6:=by omega
 replace b4:=((b4.ext x2).ext x3).ext x4
 replace b5:=(b5.ext x3).ext x4
 replace b6:=b6.ext x4
 refine kV b4 ?_
 refine kV b5 ?_
 refine Qs fun s w5 x5 hs b7=>?_
 have h5:=h.ext x5
 have hgT:∀ W,Own g w5 W->kA W:=fun W o=>hT.ext (o.ext (xx.tr x5) hw0)
 refine cu ei (yF h5 b7 (by omega) rfl (by decide) (by
  intro x hx
  simp only[List.mem_cons,List.not_mem_nil,or_false]at hx
  rcases hx with rfl | rfl
  ·exact⟨hn,hd⟩
  ·exact⟨hm,hc⟩) (hT.ext (xx.tr x5)) hgT) ?_
 rintro _ w6 ⟨rfl,o6,h6⟩
 obtain⟨b0,e0⟩:∃ b0,b0=AO n d m c:=⟨_,rfl⟩
 have e0':(false || [(n,d),(m,c)].any fun x=>!xo x.1 x.2)=b0:=by rw[e0];simp[AO]
 rw[e0']at h6
 replace b4:=dP (b4.ext x5) n4 o6
 replace b5:=dP (b5.ext x5) n5 o6
 replace b6:=dP (b6.ext x5) n6 o6
 refine xX b4 (xX b5 ?_)
 obtain⟨n1,e1⟩:∃ n1,n1=Ce b0 (lw (fun a b=>a * b) n m):=⟨_,rfl⟩
 obtain⟨b1,f1⟩:∃ b1,b1=Dk b0 (me (fun a b=>a * b) n m):=⟨_,rfl⟩
 have l1:n1.length<=1000000:=by rw[e1];exact Cf (yY _ _ _)
 have c1:=wz h6 hn hm (hgT _ o6)
 rw[<-e1,<-f1]at c1
 refine cu eP c1 ?_
 rintro _ w7 ⟨rfl,o7,h7⟩
 replace b4:=dP b4 n4 o7
 replace b5:=dP b5 n5 o7
 replace b6:=dP b6 n6 o7
 replace o7:=o6.trans o7
 refine yC b4 (yC b5 ?_)
 obtain⟨n2,e2⟩:∃ n2,n2=Ce b1 (lw (fun a b=>a * b) d c):=⟨_,rfl⟩
 obtain⟨b2,f2⟩:∃ b2,b2=Dk b1 (me (fun a b=>a * b) d c):=⟨_,rfl⟩
 have c2:=wz h7 hd hc (hgT _ o7)
 rw[<-e2,<-f2]at c2
 refine cu eP c2 ?_
 rintro _ wa ⟨rfl,oa,ha⟩
 replace b6:=dP b6 n6 oa
 replace oa:=o7.trans oa
 refine cu dH (L6 (Q:=rd) (A:=fun x y=>x.num * y.num) (B:=fun x y=>(x.den:Int) * (y.den:Int)) (fun W o=>hgT W (oa.trans o)) ?_ ?_ ?_ e0 e1 f1 e2 f2 ha) ?_
 ·rintro x y hx hy rfl rfl rfl rfl
  exact⟨nV hx.n hy.n,nW hx.n hy.n,nV hx.d hy.d,nW hx.d hy.d⟩
 ·intro x y h1 h2
  unfold rd ie
  rw[if_pos ⟨h1,h2⟩,if_neg (sW x y),Hj]
 ·intro x y h1
  unfold rd
  rw[if_neg (fun h:NX x y=>h1 h)]
 rintro _ wb ⟨ob,rfl⟩
 refine gN (qG (dP b6 n6 ob) fun wc oc=>?_)
 exact bQ.mk ⟨oc.ext ((oa.trans ob).ext (xx.tr x5) hw0) hw06,rfl⟩
end
theorem Nn{x:Int}{t:TypeId}{w:World}{K:Value->World->Prop}(h0: -1<=x)(h1:x<=1)(hk:K (.int .i64 (-x)) w):Un prog .neg (.int .i64 x) w K:=by
 have e:=Sr (x:= -x) (by omega) (by omega)
 (repeat (first|simp -dsimp[go_sem,e]|simp -dsimp (disch:=omega)only[gL,gI]))
 exact hk
theorem QY{x:Int}{w:World}{KP:Value->Prop}(h0: -1<=x)(h1:x<=1)(hk:KP (.int .i64 (-x))):Dv prog true (Op.unary .neg (.int .i64 x)) w.drew KP:=by
 have e:=Sr (x:= -x) (by omega) (by omega)
 (repeat (first|simp -dsimp[go_sem,e]|simp -dsimp (disch:=omega)only[gL,gI]))
 exact hk
theorem QZ{w:World}{a b:List UInt8}{KP:Value->Prop}(hk:KP (.agg #[bh a,bh b])):Dv prog true (Instr.build tR #[(0,bh a),(1,bh b)]) w.drew KP:=by
 (repeat (first|simp -dsimp[go_sem]|simp -dsimp (disch:=omega)only[gL,gI]))
 exact hk
noncomputable def BM(g:Nat)(W:World):Nat:=match W.cell? ⟨g,1,none⟩ with
 | some (.string b)=>(rz b.data.toList).toNat
 | _=>0
theorem BN{g:Nat}{W:World}{a:List UInt8}{q:Int}(h:cM W g tR [bh a,bh (Lib.itoa q)])(hq:q.natAbs < cr):BM g W=q.toNat:=by
 unfold BM
 rw[h.cell (i:=1) rfl]
 show(rz (Lib.itoa q)).toNat=_
 rw[jc hq]
theorem je{p q:Int}(hp:p.natAbs < cr):(p / q).natAbs < cr:=by
 have:=Int.natAbs_ediv_le_natAbs p q
 omega
theorem nz{p q:Int}(h0:0 < q)(hq:q.natAbs < cr):(p % q).natAbs < cr:=by
 have h1:=Int.emod_nonneg p (show q≠0 by omega)
 have h2:=Int.emod_lt_of_pos p h0
 omega
section
variable{n d m c:List UInt8}{w:World}(hn:n.length<=1000000)(hd:d.length<=1000000)(hm:m.length<=1000000)(hc:c.length<=1000000)(hT:kA w)
include hn hd hm hc hT
set_option maxHeartbeats 2000000 in
theorem L7(o1:kB n d)(o2:kB m c):Calls prog 34 #[.agg #[bh n,bh d],.agg #[bh m,bh c]] w (bQ fun r w'=>bK w w'/\r=.int .i64 (pk ig 0 n d m c)):=by
 obtain⟨x,rfl,rfl,hx⟩:=o1
 obtain⟨y,rfl,rfl,hy⟩:=o2
 rw[mJ hx hy]
 have v1:=jG (w:=w) hn hd
 rw[iu (ni.2 hx)]at v1
 apply kd
 unfold ip
 refine kT fun g2 w1 x1 hg2 hg2' b2=>?_
 refine kT fun g3 w2 x2 hg3 hg3' b3=>?_
 replace b2:=b2.ext x2
 refine kV b2 ?_
 have v1:=jG (w:=w2) hn hd ((hT.ext x1).ext x2)
 rw[iu (ni.2 hx)]at v1
 refine fA dk v1 fun w3 x3=>?_
 replace b2:=b2.ext x3
 replace b3:=b3.ext x3
 (refine ct ?_;refine ah ?_)
 refine kV b3 ?_
 have v2:=jG (w:=w3) hm hc (((hT.ext x1).ext x2).ext x3)
 rw[iu (ni.2 hy)]at v2
 refine fA dk v2 fun w4 x4=>?_
 replace b2:=b2.ext x4
 replace b3:=b3.ext x4
 have xx:=((x1.tr x2).tr x3).tr x4
 have s1:=x1.size
 have hne:g3≠g2:=by omega
 have h30:w.heap.size<=g3:=by omega
 (refine ah ?_;refine ct ?_;refine aw ?_;refine cf ?_)
 obtain⟨I,hI⟩:∃ I:Value->World->Prop,I=(fun i W=>∃ σ p q m c:Int,(σ=1\/σ= -1)/\i=.int .i64 σ/\bK w W/\cM W g2 tR [bh (Lib.itoa p),bh (Lib.itoa q)]/\cM W g3 tR [bh (Lib.itoa m),bh (Lib.itoa c)]/\
  p.natAbs < cr/\(0 < q/\q.natAbs < cr)/\m.natAbs < cr/\(0 < c/\c.natAbs < cr)/\σ * vd p q m c=ig x y):=⟨_,rfl⟩
 refine jt.mk I (fun _ W=>BM g2 W) (by rw[hI];exact⟨1,_,_,_,_,.inl rfl,rfl,xx,b2,b3,hx.n,⟨den_pos x,hx.d⟩,hy.n,⟨den_pos y,hy.d⟩,by rw[Int.one_mul];rfl⟩) ?_
 intro i W hh
 have hh':=hh
 rw[hI]at hh'
 obtain⟨σ,p,q,m,c,hσ,rfl,xW,b2,b3,hp,⟨hq0,hq⟩,hm,⟨hc0,hc⟩,hz⟩:=hh'
 have hμ:BM g2 W=q.toNat:=BN b2 hq
 have hTW:=hT.ext xW
 refine xX b2 (yC b2 ?_)
 refine MF lM (Hv hp hq (by omega) hTW rfl rfl) fun w5 x5=>?_
 replace b2:=b2.ext x5
 replace b3:=b3.ext x5
 refine xX b3 (yC b3 ?_)
 refine MF lM (Hv hm hc (by omega) (hTW.ext x5) rfl rfl) fun w6 x6=>?_
 replace b2:=b2.ext x6
 replace b3:=b3.ext x6
 by_cases hpm:p / q=m / c
 ·refine fA fP (xh (je hp) (je hm) (qD hpm)) fun w7 x7=>?_
  replace b2:=b2.ext x7
  replace b3:=b3.ext x7
  replace xW:=((xW.tr x5).tr x6).tr x7
  ((refine cE ?_ ?_;focus omega);refine cf ?_)
  by_cases hr:p % q=0
  ·have er:=PX hr
   by_cases hs:m % c=0
   ·have es:=PX hs
    ((refine jw ?_ ?_;focus assumption);refine aP ?_;refine aP ?_;(refine jw ?_ ?_;focus assumption);refine aQ ?_;refine co ?_)
    refine bQ.mk ⟨xW,?_⟩
    rw[<-hz,Gu hpm hr hs,Int.mul_zero]
   ·have es:=Bp hs
    ((refine jw ?_ ?_;focus assumption);refine aP ?_;refine aP ?_;(refine fC ?_ ?_;focus assumption);refine aQ ?_;refine cf ?_;(refine jw ?_ ?_;focus assumption);refine co ?_)
    refine Nn (t:=3) (by omega) (by omega) ?_
    refine bQ.mk ⟨xW,?_⟩
    rw[<-hz,Gv hq0 hc0 hpm hr hs];congr 1;omega
  ·have er:=Bp hr
   by_cases hs:m % c=0
   ·have es:=PX hs
    ((refine fC ?_ ?_;focus assumption);refine aK ?_;refine aK ?_;refine aw ?_;refine cf ?_;(refine fC ?_ ?_;focus assumption);refine cf ?_;(refine jw ?_ ?_;focus assumption);refine co ?_)
    refine bQ.mk ⟨xW,?_⟩
    rw[<-hz,Gw hq0 hc0 hpm hr hs];congr 1;omega
   ·have es:=Bp hs
    ((refine fC ?_ ?_;focus assumption);refine aK ?_;refine aK ?_;refine aw ?_;refine cf ?_;(refine fC ?_ ?_;focus assumption);refine cf ?_;(refine fC ?_ ?_;focus assumption);refine cf ?_)
    refine L4 (L5 b2 (QZ (L4 (L5 b3 (QZ (QY (by omega) (by omega) ?_))))))
    refine Ja (w:=w7.drew) b2 fun w8 o8 b28=>?_
    have b38:=dP (W:=w7.drew) b3 hne o8
    refine QV b38 ?_
    refine Ja b38 fun w9 o9 b39=>?_
    have b29:=dP b28 hne.symm o9
    have hr1:=Int.emod_nonneg p (show q≠0 by omega)
    have hr2:=Int.emod_lt_of_pos p hq0
    have hs1:=Int.emod_nonneg m (show c≠0 by omega)
    refine⟨?_,?_⟩
    ·rw[hI]
     refine⟨-σ,q,p % q,c,m % c,by omega,rfl,o9.ext (o8.ext (w:=w7.drew) xW.dr hg2) h30,b29,b39,hq,⟨by omega,nz hq0 hq⟩,hc,⟨by omega,nz hc0 hc⟩,?_⟩
     rw[<-hz,Gx hpm];rw[Int.neg_mul,Int.mul_neg]
    ·show BM g2 w9 < BM g2 W
     rw[hμ,BN b29 (nz hq0 hq)]
     omega
 ·have hcmp:=Dx hq0 hc0 hpm
  have hrng:=uC (p / q) (m / c)
  have hne0:dK (p / q) (m / c)≠0:=fun h=>hpm (Bw h)
  refine fA fP (xh (je hp) (je hm) rfl) fun w7 x7=>?_
  obtain⟨κ,hκ⟩:∃ κ,κ=dK (p / q) (m / c):=⟨_,rfl⟩
  rw[<-hκ]at hrng hne0 hcmp ⊢
  have hb: -1<=σ * κ/\σ * κ<=1:=by
   rcases hσ with rfl | rfl <;> rcases hrng with h | h | h <;> rw[h] <;> decide
  ((refine gi ?_ ?_;focus omega);refine co ?_)
  refine BT (by omega) (by omega) ?_
  refine bQ.mk ⟨((xW.tr x5).tr x6).tr x7,?_⟩
  rw[<-hz,hcmp]
theorem L8(o1:kB n d)(o2:¬kB m c):Calls prog 34 #[.agg #[bh n,bh d],.agg #[bh m,bh c]] w (bQ fun r w'=>bK w w'/\r=.int .i64 (pk ig 0 n d m c)):=by
 rw[jF (fun h=>o2 h.2)]
 apply kd
 unfold ip
 refine kT fun g2 w1 x1 hg2 hg2' b2=>?_
 refine kT fun g3 w2 x2 hg3 hg3' b3=>?_
 replace b2:=b2.ext x2
 refine kV b2 ?_
 have v1:=jG (w:=w2) hn hd ((hT.ext x1).ext x2)
 rw[iu o1]at v1
 refine fA dk v1 fun w3 x3=>?_
 replace b3:=b3.ext x3
 (refine ct ?_;refine ah ?_)
 refine kV b3 ?_
 have v2:=jG (w:=w3) hm hc (((hT.ext x1).ext x2).ext x3)
 rw[jd o2]at v2
 refine fA dk v2 fun w4 x4=>?_
 (refine ah ?_;refine d7 ?_;refine aw ?_;refine co ?_)
 exact bQ.mk ⟨((x1.tr x2).tr x3).tr x4,rfl⟩
theorem L9(o1:¬kB n d):Calls prog 34 #[.agg #[bh n,bh d],.agg #[bh m,bh c]] w (bQ fun r w'=>bK w w'/\r=.int .i64 (pk ig 0 n d m c)):=by
 rw[jF (fun h=>o1 h.1)]
 apply kd
 unfold ip
 refine kT fun g2 w1 x1 hg2 hg2' b2=>?_
 refine kT fun g3 w2 x2 hg3 hg3' b3=>?_
 replace b2:=b2.ext x2
 refine kV b2 ?_
 have v1:=jG (w:=w2) hn hd ((hT.ext x1).ext x2)
 rw[jd o1]at v1
 refine fA dk v1 fun w3 x3=>?_
 (refine d7 ?_;refine aR ?_;refine aR ?_;refine aR ?_;refine aQ ?_;refine co ?_)
 exact bQ.mk ⟨(x1.tr x2).tr x3,rfl⟩
theorem OS:Calls prog 34 #[.agg #[bh n,bh d],.agg #[bh m,bh c]] w (bQ fun r w'=>bK w w'/\r=.int .i64 (pk ig 0 n d m c)):=by
 by_cases o1:kB n d
 ·by_cases o2:kB m c
  ·exact L7 hn hd hm hc hT o1 o2
  ·exact L8 hn hd hm hc hT o1 o2
 ·exact L9 hn hd hm hc hT o1
end
end Go.Proofs.YtnkmbjedcjcccaaGreatDoor
