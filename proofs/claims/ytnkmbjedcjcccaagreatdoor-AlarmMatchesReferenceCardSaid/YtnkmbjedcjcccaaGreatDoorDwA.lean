/-
  Contracts and plain lemmas. By an AI agent.
-/
import Derived.Test.YtnkmbjedcjcccaaGreatDoorQRatC
import Derived.Test.YtnkmbjedcjcccaaGreatDoorQRatA
import Derived.Test.YtnkmbjedcjcccaaGreatDoorQMem
import Derived.Test.YtnkmbjedcjcccaaGreatDoorRefW
import Derived.Test.YtnkmbjedcjcccaaGreatDoorStrY
set_option linter.all false
namespace Go.Proofs.YtnkmbjedcjcccaaGreatDoor
open Tryz
open Go Go.Eng Go.Proofs Go.Num Go.RowKit
set_option maxRecDepth 100000
theorem Mg(n:Nat):∀ b∈List.replicate n (48:UInt8),lG b:=by
 intro b hb
 rw[List.eq_of_mem_replicate hb];decide
theorem O7(n:Nat):dv (List.replicate n 48)=0:=by
 induction n with
 | zero=>rfl
 | succ n ih=>rw[List.replicate_succ,Da,ih];simp
theorem O8(n:Nat):dv (49::List.replicate n 48)=10 ^ n:=by
 rw[Da,O7,List.length_replicate]
 show 1 * 10 ^ n+0=_
 omega
theorem D4{s:List UInt8}(h:∀ b∈s,lG b)(hne:s≠[])(hh:s.length=1\/s.head?≠some 48):Lib.itoa (dv s:Int)=s:=by
 refine qC _ ?_ rfl
 unfold ER
 simp only[Bool.and_eq_true,Bool.or_eq_true,List.all_eq_true,decide_eq_true_eq,beq_iff_eq,bne_iff_ne,Bool.not_eq_true',List.isEmpty_eq_false_iff]
 exact⟨⟨hne,h⟩,hh⟩
theorem GZ{k:Int}{n:Nat}(h:k=n):49::List.replicate n (48:UInt8)=Lib.itoa (rB k):=by
 subst h
 have h1:=D4 (s:=49::List.replicate n 48) (by
  intro b hb
  rcases List.mem_cons.1 hb with rfl | hb
  ·decide
  ·exact Mg n b hb) (by simp) (.inr (by simp))
 rw[O8]at h1
 rw[<-h1]
 congr 1
theorem O9{k:Int}(h:k<=30):Sz 31 (rB k):=by
 unfold Sz rB
 rw[Int.natAbs_pow]
 exact Nat.pow_lt_pow_right (by decide) (by omega)
theorem nZ{k:Int}(h:k<=30):(rB k).natAbs < cr:=(O9 h).max (by decide)
theorem Pa(k:Int):rB k≠0:=Int.ne_of_gt (Lw k)
theorem BO{z k:Int}:ie z (rB k)=rQ ((z:Rat) / (rB k:Int)):=by unfold ie;rw[if_neg (Pa k)]
section
variable{n d:List UInt8}{k:Int}{up:Bool}{w:World}(hn:n.length<=1000000)(hd:d.length<=1000000)(hT:kA w)
include hn hd hT
theorem HM(o:¬(kB n d/\0<=k/\k<=30)):Calls prog 97 #[.agg #[bh n,bh d],.int .i64 k,.bool up] w (bQ fun r w'=>bK w w'/\r=rv gq):=by
 apply pA
 unfold lB
 refine kT fun g3 w1 x1 hg3 hg3' b3=>?_
 refine tG fun g6 w2 x2 hg6 hg6' b6=>?_
 have xx:=x1.tr x2
 replace b3:=b3.ext x2
 have k6:w.heap.size<=g6:=by have:=x1.size;omega
 have body:∀ b:Bool,(b || !xo n d)=true->∀ g w4,bK w2 w4->w2.heap.size<=g->g < w4.heap.size->cM w4 g tW [.bool b]->∀ s w5,bK w4 w5->w4.heap.size<=s->cM w5 s tR (rC [(n,d)])->
  Calls prog 69 #[pt g,.slice (some ⟨s,0,none⟩) 1 1] w5 (bQ (K4 g w5 (.tuple #[]) true)):=by
  intro b hb g w4 x4 hg hgl h s w5 x5 hs b7
  have hw0:w.heap.size<=g:=by have:=xx.size;omega
  have hgT:∀ W,Own g w5 W->kA W:=fun W o=>hT.ext (o.ext ((xx.tr x4).tr x5) hw0)
  have c:=yF (k:=1) (h.ext x5) b7 (by omega) rfl (by decide) (by
   intro x hx
   simp only[List.mem_cons,List.not_mem_nil,or_false]at hx
   subst hx;exact⟨hn,hd⟩) (hT.ext ((xx.tr x4).tr x5)) hgT
  have eb:(b || [(n,d)].any fun x=>!xo x.1 x.2)=true:=by simpa using hb
  rw[eb]at c
  exact c
 have endW:∀ g w4,bK w2 w4->w2.heap.size<=g->∀ w5,bK w4 w5->∀ w6,Own g w5 w6->cM w6 g6 tR [bh [],bh []]/\bK w w6:=by
  intro g w4 x4 hg w5 x5 w6 o6
  have hne6:g6≠g:=by omega
  have hw0:w.heap.size<=g:=by have:=xx.size;omega
  exact⟨dP ((b6.ext x4).ext x5) hne6 o6,o6.ext ((xx.tr x4).tr x5) hw0⟩
 by_cases h0:0<=k
 ·by_cases h1:k<=30
  ·have ob:xo n d=false:=jd (fun h=>o ⟨h,h0,h1⟩)
   ((refine cD ?_ ?_;focus omega);refine ah ?_;refine ah ?_;(refine d9 ?_ ?_;focus omega);refine aw ?_)
   refine NZ ?_
   refine LF fun g w4 x4 hg hgl h=>?_
   refine kV (b3.ext x4) ?_
   refine LI fun s w5 x5 hs b7=>?_
   refine cu ei (body false (by rw[ob];rfl) g w4 x4 hg hgl h s w5 x5 hs b7) ?_
   rintro _ w6 ⟨rfl,o6,h6⟩
   obtain⟨q6,q7⟩:=endW g w4 x4 hg w5 x5 w6 o6
   refine Cg ?_
   refine Ip h6 ?_
   refine co ?_
   exact iZ q6 q7 k6
  ·((refine cD ?_ ?_;focus omega);refine ah ?_;refine ah ?_;(refine eB ?_ ?_;focus omega);refine aw ?_)
   refine NZ ?_
   refine LF fun g w4 x4 hg hgl h=>?_
   refine kV (b3.ext x4) ?_
   refine LI fun s w5 x5 hs b7=>?_
   refine cu ei (body true rfl g w4 x4 hg hgl h s w5 x5 hs b7) ?_
   rintro _ w6 ⟨rfl,o6,h6⟩
   obtain⟨q6,q7⟩:=endW g w4 x4 hg w5 x5 w6 o6
   refine Cg ?_
   refine Ip h6 ?_
   refine co ?_
   exact iZ q6 q7 k6
 ·((refine cy ?_ ?_;focus omega);refine aR ?_;refine aR ?_;refine aQ ?_)
  refine NZ ?_
  refine LF fun g w4 x4 hg hgl h=>?_
  refine kV (b3.ext x4) ?_
  refine LI fun s w5 x5 hs b7=>?_
  refine cu ei (body true rfl g w4 x4 hg hgl h s w5 x5 hs b7) ?_
  rintro _ w6 ⟨rfl,o6,h6⟩
  obtain⟨q6,q7⟩:=endW g w4 x4 hg w5 x5 w6 o6
  refine Cg ?_
  refine Ip h6 ?_
  refine co ?_
  exact iZ q6 q7 k6
end
section
variable{x:Rat}{k:Int}{w:World}(hx:RB x)(hT:kA w)(h0:0<=k)(h1:k<=30)
include hx hT h0 h1
theorem J3{up:Bool}:Calls prog 97 #[fq x,.int .i64 k,.bool up] w (bQ fun r w'=>bK w w'/\r=rv (ko up k x)):=by
 have hB:prog.underlying 4=some .bool:=underlying4
 obtain⟨m,hm⟩:∃ m:Nat,k=m:=⟨k.toNat,by omega⟩
 have ob:xo (Lib.itoa x.num) (Lib.itoa (x.den:Int))=true:=iu (ni.2 hx)
 have hlen:∀ y∈[(Lib.itoa x.num,Lib.itoa (x.den:Int))],y.1.length<=1000000/\y.2.length<=1000000:=by
  intro y hy
  simp only[List.mem_cons,List.not_mem_nil,or_false]at hy
  subst hy;exact⟨cv hx.n,cv hx.d⟩
 have htl:=cv (nZ h1)
 have hd0:=Int.ne_of_gt (den_pos x)
 apply pA
 unfold lB
 refine kT fun g3 w1 x1 hg3 hg3' b3=>?_
 refine tG fun g6 w2 x2 hg6 hg6' b6=>?_
 have xx:=x1.tr x2
 replace b3:=b3.ext x2
 have k6:w.heap.size<=g6:=by have:=x1.size;omega
 ((refine cD ?_ ?_;focus omega);refine ah ?_;refine ah ?_;(refine d9 ?_ ?_;focus omega);refine aw ?_)
 refine NZ ?_
 refine LF fun g w4 x4 hg hgl h=>?_
 have n3:g3≠g:=by omega
 have n6:g6≠g:=by omega
 have hw0:w.heap.size<=g:=by have:=xx.size;omega
 replace b3:=b3.ext x4
 replace b6:=b6.ext x4
 replace xx:=xx.tr x4
 refine kV b3 ?_
 refine LI fun s w5 x5 hs b7=>?_
 replace b3:=b3.ext x5
 replace b6:=b6.ext x5
 replace xx:=xx.tr x5
 replace h:=h.ext x5
 have hsg:s≠g:=by omega
 clear x1 x2 x4 x5 hg3 hg3' hg6 hg6' hg hgl hs
 have hgT:∀ W,Own g w5 W->kA W:=fun W o=>hT.ext (o.ext xx hw0)
 have cc:=yF (k:=1) h b7 hsg rfl (by decide) hlen (hT.ext xx) hgT
 rw[show(false || [(Lib.itoa x.num,Lib.itoa (x.den:Int))].any fun y=>!xo y.1 y.2)=false by simp[ob]]at cc
 refine cu ei cc ?_
 rintro _ w6 ⟨rfl,o6,h6⟩
 replace b3:=dP b3 n3 o6
 replace b6:=dP b6 n6 o6
 refine Cg ?_
 refine Ip h6 ?_
 refine cf ?_
 subst hm
 refine cu pB (B4 (c:=m) (by omega)) ?_
 rintro _ w7 ⟨rfl,x7⟩
 refine Kx (by simp;omega) ?_
 rw[show [49]++List.replicate m (48:UInt8)=Lib.itoa (rB (m:Int)) from GZ rfl]
 have h7:=h6.ext x7
 have o7:Own g w5 w7:=o6.trans (.ofExt x7 (Nat.le_of_lt h6.lt))
 replace b3:=b3.ext x7
 replace b6:=b6.ext x7
 refine xX b3 ?_
 have cm:=wz h7 (cv hx.n) htl (hgT _ o7)
 rw[nV hx.n (nZ h1),nW hx.n (nZ h1),lS,xq]at cm
 refine cu eP cm ?_
 rintro _ w8 ⟨rfl,o8,h8⟩
 replace b3:=dP b3 n3 o8
 replace b6:=dP b6 n6 o8
 replace o8:=o7.trans o8
 refine Cg ?_
 refine Ip h8 ?_
 by_cases hb:(x.num * rB (m:Int)).natAbs < cr
 ·rw[decide_eq_true hb]at h8 ⊢
  rw[gh hb]
  refine cf (yC b3 ?_)
  have hq:=je (q:=(x.den:Int)) hb
  have hr:=nz (p:=x.num * rB (m:Int)) (den_pos x) hx.d
  refine MF lM (Hv hb hx.d hd0 (hgT _ o8) rfl rfl) fun w9 x9=>?_
  replace b6:=b6.ext x9
  have h9:=h8.ext x9
  have o9:Own g w5 w9:=o8.trans (.ofExt x9 (Nat.le_of_lt h8.lt))
  have eN:vf up x (m:Int)=if up=true/\(x.num * rB (m:Int)) % (x.den:Int)≠0 then(x.num * rB (m:Int)) / (x.den:Int)+1 else(x.num * rB (m:Int)) / (x.den:Int):=rfl
  obtain⟨u,hu⟩:∃ u,u=(x.num * rB (m:Int)) / (x.den:Int):=⟨_,rfl⟩
  obtain⟨r,hre⟩:∃ r,r=(x.num * rB (m:Int)) % (x.den:Int):=⟨_,rfl⟩
  rw[<-hu]at hq
  rw[<-hu,<-hre]at eN ⊢
  clear hu hre
  refine mE.mk ?_
  intro K hK
  refine cE rfl ?_
  refine Cg ?_
  refine N0 h9 fun wa oa ha=>?_
  replace b6:=dP b6 n6 oa
  replace oa:=o9.trans oa
  have fin:∀ z:Int,∀ W,z.natAbs < cr->vf up x (m:Int)=z->Own g w5 W->cM W g tW [.bool false]->cM W g6 tR [bh [],bh []]->K (bh (Lib.itoa z)) W:=by
   intro z W hz ez o hW q6
   refine hK _ _ ?_
   have e:ko up (m:Int) x=ie z (rB (m:Int)):=by
    unfold ko;rw[if_pos ⟨⟨h0,h1⟩,hb,by rw[ez];exact hz⟩,ez,BO]
   rw[e]
   refine cu dH (td hW hz (nZ h1) (fun W' o'=>hgT W' (o.trans o'))) ?_
   rintro _ wb ⟨ob,rfl⟩
   refine gN ?_
   exact AK (dP q6 n6 ob) ((o.trans ob).ext xx hw0) k6 rfl
  have finBad:∀(A:List UInt8) (W:World),ko up (m:Int) x=gq->Own g w5 W->cM W g tW [.bool true]->cM W g6 tR [bh [],bh []]->K (bh A) W:=by
   intro A W e o hW q6
   refine hK _ _ ?_
   rw[e]
   refine cu dH (ej hW) ?_
   rintro _ wb ⟨ob,rfl⟩
   refine gN ?_
   exact AK (dP q6 n6 ob) ((o.trans ob).ext xx hw0) k6 rfl
  cases up with
  | false=>
   (refine aK ?_;refine aK ?_;refine aw ?_;refine cf ?_)
   exact fin u wa hq (by rw[eN,if_neg (by simp)]) oa ha b6
  | true=>
   by_cases hr0:r=0
   ·have er:Lib.itoa r=[48]:=by rw[hr0,wp]
    rw[er]
    (refine aP ?_;refine aP ?_;refine yK ?_;refine aQ ?_;refine cf ?_)
    exact fin u wa hq (by rw[eN,if_neg (by simp[hr0])]) oa ha b6
   ·have er:=Bp hr0
    (refine aP ?_;refine aP ?_;(refine yL ?_ ?_;focus assumption);refine aQ ?_;refine co ?_)
    have cA:=M3 (w:=wa) (cv hq) (show([49]:List UInt8).length<=1000000 by decide) (hgT _ oa)
    have cd:=I9 ha tV cA
    rw[<-l1,nV hq m1,nW hq m1,lS,xq]at cd
    rw[l1]at cd
    refine cu eG cd ?_
    rintro _ wc ⟨rfl,oc,hc⟩
    have q6:=dP b6 n6 oc
    replace oc:=oa.trans oc
    have eN':vf true x (m:Int)=u+1:=by rw[eN,if_pos ⟨rfl,hr0⟩]
    by_cases hm1:(u+1).natAbs < cr
    ·rw[decide_eq_true hm1]at hc
     rw[gh hm1]
     exact fin (u+1) wc hm1 eN' oc hc q6
    ·rw[decide_eq_false hm1]at hc
     exact finBad _ wc (by unfold ko;rw[if_neg (fun h=>hm1 (by rw[<-eN'];exact h.2.2))]) oc hc q6
 ·have e:ko up (m:Int) x=gq:=by unfold ko;rw[if_neg (fun h=>hb h.2.1)]
  rw[e]
  rw[decide_eq_false hb]
  refine co ?_
  exact iZ b6 (o8.ext xx hw0) k6
end
section
variable{n d:List UInt8}{k:Int}{w:World}(hn:n.length<=1000000)(hd:d.length<=1000000)(hT:kA w)
include hn hd hT
theorem Mh{up:Bool}:Calls prog 97 #[.agg #[bh n,bh d],.int .i64 k,.bool up] w (bQ fun r w'=>bK w w'/\r=rv (E9 (ko up k) gq n d)):=by
 by_cases o:kB n d/\0<=k/\k<=30
 ·obtain⟨⟨x,rfl,rfl,hx⟩,h0,h1⟩:=o
  rw[s7 hx]
  exact J3 hx hT h0 h1
 ·have e:E9 (ko up k) gq n d=gq:=by
   by_cases o1:kB n d
   ·obtain⟨x,rfl,rfl,hx⟩:=o1
    rw[s7 hx]
    unfold ko
    rw[if_neg (fun h=>o ⟨⟨x,rfl,rfl,hx⟩,h.1⟩)]
   ·exact Dy o1
  rw[e]
  exact HM hn hd hT o
theorem Mj:Calls prog 60 #[.agg #[bh n,bh d],.int .i64 k] w (bQ fun r w'=>bK w w'/\r=rv (E9 (ko false k) gq n d)):=by
 apply ye
 unfold qM
 refine kT fun g2 w1 x1 hg2 _ b2=>?_
 refine tG fun g4 w3 x3 hg4 _ b4=>?_
 refine kV (b2.ext x3) ?_
 refine pU wV (Mh hn hd ((hT.ext x1).ext x3)) fun w4 x4=>?_
 exact AK (b4.ext x4) ((x1.tr x3).tr x4) (by have:=x1.size;omega) rfl
end
end Go.Proofs.YtnkmbjedcjcccaaGreatDoor
namespace Go.Proofs.YtnkmbjedcjcccaaGreatDoor
open Tryz
open Go Go.Eng Go.Proofs Go.Num Go.RowKit
set_option maxRecDepth 100000
theorem rT{s:List UInt8}{w:World}(hs:s.length<=1000000):Calls prog 80 #[bh s] w (bQ fun r w'=>bK w w'/\r=u5 s):=by
 have hS:prog.underlying 9=some .string:=underlying9
 have c1:=zh (w:=w) hs
 cases hv:cI s with
 | false=>
  rw[hv]at c1
  have e:u5 s=.tuple #[.int .i64 0,.int .i64 30]:=by unfold u5;rw[hv];rfl
  rw[e]
  apply jL
  unfold iG
  refine fA cp c1 fun w1 x1=>?_
  (refine d7 ?_;refine aR ?_;refine aR ?_;refine aR ?_;refine aQ ?_;refine aR ?_;refine aR ?_;refine aR ?_;refine aQ ?_;refine co ?_)
  exact bQ.mk ⟨x1,rfl⟩
 | true=>
  rw[hv]at c1
  obtain⟨z,hz,rfl⟩:=kO hv
  rw[xV hz]
  have mmin:=EM (n:= -9223372036854775808) (by decide) (by decide)
  have mmax:=EM (n:=9223372036854775807) (by decide) (by decide)
  by_cases h0:z < -9223372036854775808
  ·rw[if_neg (by omega)]
   apply jL
   unfold iG
   refine fA cp c1 fun w1 x1=>?_
   (refine ct ?_;refine ah ?_;refine ah ?_)
   refine fA dp (MS ▸ gK (y:= -9223372036854775808) hz mmin (iU h0)) fun w2 x2=>?_
   (refine ah ?_;(refine cy ?_ ?_;focus omega);refine aw ?_;refine aR ?_;refine aR ?_;refine aR ?_;refine aQ ?_;refine co ?_)
   exact bQ.mk ⟨x1.tr x2,rfl⟩
  ·have g0:=tw (show -9223372036854775808<=z by omega)
   by_cases h1:9223372036854775807 < z
   ·rw[if_neg (by omega)]
    apply jL
    unfold iG
    refine fA cp c1 fun w1 x1=>?_
    (refine ct ?_;refine ah ?_;refine ah ?_)
    refine fA dp (MS ▸ gK (y:= -9223372036854775808) hz mmin rfl) fun w2 x2=>?_
    (refine ah ?_;(refine cD ?_ ?_;focus omega);refine aw ?_;refine ah ?_;refine ah ?_)
    refine fA dp (PS ▸ gK (y:=9223372036854775807) hz mmax (kS h1)) fun w3 x3=>?_
    (refine ah ?_;(refine eB ?_ ?_;focus omega);refine aw ?_;refine co ?_)
    exact bQ.mk ⟨(x1.tr x2).tr x3,rfl⟩
   ·have g1:=De (show z<=9223372036854775807 by omega)
    rw[if_pos ⟨by omega,by omega⟩]
    obtain⟨l,hl⟩:∃ l,l=Lib.decDigits z.natAbs:=⟨_,rfl⟩
    have hlD:∀ b∈l,lG b:=by rw[hl];exact oD _
    have hdv:dv l=z.natAbs:=by rw[hl];exact uZ _
    have hll:l.length<=200:=by rw[hl];exact(mX (by decide)).2 (by unfold cr at hz;exact hz)
    have hlne:l≠[]:=by rw[hl];exact sU _
    have hlp:0 < l.length:=List.length_pos_iff.2 hlne
    have hz0: -9223372036854775808<=z:=by omega
    have hz1:z<=9223372036854775807:=by omega
    by_cases hneg:z < 0
    ·have hi:Lib.itoa z=45::l:=by unfold Lib.itoa;rw[if_pos hneg,hl]
     have k1:=fun w=>gK (w:=w) (y:= -9223372036854775808) hz mmin rfl
     have k2:=fun w=>gK (w:=w) (y:=9223372036854775807) hz mmax rfl
     rw[MS]at k1
     rw[PS]at k2
     rw[hi]at c1 k1 k2 ⊢
     have hlen:(45::l).length=l.length+1:=rfl
     have h45:((45:UInt8).toNat:Int)=45:=rfl
     apply jL
     unfold iG
     refine fA cp c1 fun w1 x1=>?_
     (refine ct ?_;refine ah ?_;refine ah ?_)
     refine fA dp (k1 w1) fun w2 x2=>?_
     (refine ah ?_;(refine cD ?_ ?_;focus omega);refine aw ?_;refine ah ?_;refine ah ?_)
     refine fA dp (k2 w2) fun w3 x3=>?_
     (refine ah ?_;(refine d9 ?_ ?_;focus omega);refine aw ?_;refine cf ?_)
     have h3:=(x1.tr x2).tr x3
     obtain⟨I,hI⟩:∃ I:Value->Value->World->Prop,I=(fun n i W=>W=w3/\((n=.int .i64 0/\i=.int .i64 0)\/∃ j:Nat,j<=l.length/\i=.int .i64 ((j:Int)+1)/\n=.int .i64 (-(dv (l.take j):Int)))):=⟨_,rfl⟩
     obtain⟨μ,hμ⟩:∃ μ:Value->Value->World->Nat,μ=(fun _ i _=>match i with | .int _ i'=>(l.length+1 - i').toNat | _=>0):=⟨_,rfl⟩
     refine uN.mk I μ (by rw[hI];exact⟨rfl,.inl ⟨rfl,rfl⟩⟩) ?_
     intro n i W hh
     rw[hI]at hh
     rcases hh with ⟨rfl,⟨rfl,rfl⟩ | ⟨j,hj,rfl,rfl⟩⟩
     ·((refine eh ?_ ?_;(focus assumption));(refine cy ?_ ?_;focus omega);refine co ?_)
      refine qy (l:=45::l) (j:=0) (b:=45) rfl rfl (by omega) ?_
      ((refine ea ?_ ?_;focus omega);refine co ?_;(refine cF ?_ ?_ ?_;(focus omega);(focus omega)))
      rw[hI,hμ]
      exact⟨⟨rfl,.inr ⟨0,by omega,rfl,rfl⟩⟩,by simp only[];omega⟩
     ·by_cases hjl:j < l.length
      ·have hat:(45::l)[j+1]?=some l[j]:=by rw[List.getElem?_cons_succ];exact List.getElem?_eq_getElem hjl
       obtain⟨b,hb⟩:∃ b,b=l[j]:=⟨_,rfl⟩
       have hbD:=hlD b (by rw[hb];exact List.getElem_mem _)
       have hst:=Hq hjl
       have hle:=AE l (j+1)
       rw[<-hb]at hat hst
       unfold lG at hbD
       ((refine eh ?_ ?_;(focus assumption));(refine cy ?_ ?_;focus omega);refine co ?_)
       refine qy (l:=45::l) (j:=j+1) (by push_cast;rfl) hat (by omega) ?_
       ((refine io ?_ ?_;focus omega);refine cf ?_)
       refine qy (l:=45::l) (j:=j+1) (by push_cast;rfl) hat (by omega) ?_
       refine F9 (by omega) (by omega) (PD (by omega) (by omega) ?_)
       refine qy (l:=45::l) (j:=0) (b:=45) rfl rfl (by omega) ?_
       ((refine ea ?_ ?_;focus omega);refine co ?_)
       refine Un_ng (by omega) (by omega) (KT (by omega) (by omega) ?_)
       ((refine cF ?_ ?_ ?_;(focus omega);(focus omega));(refine cF ?_ ?_ ?_;(focus omega);(focus omega)))
       rw[hI,hμ]
       exact⟨⟨rfl,.inr ⟨j+1,by omega,by push_cast;rfl,by rw[hst];congr 1;omega⟩⟩,by simp only[];omega⟩
      ·have ht:dv (l.take j)=z.natAbs:=by rw[List.take_of_length_le (by omega),hdv]
       ((refine eh ?_ ?_;(focus assumption));(refine cD ?_ ?_;focus omega);refine cf ?_)
       refine bQ.mk ⟨h3,?_⟩
       rw[ht]
       congr 3
       simp;omega
    ·have hi:Lib.itoa z=l:=by unfold Lib.itoa;rw[if_neg hneg,hl,show z.toNat=z.natAbs from by omega]
     have k1:=fun w=>gK (w:=w) (y:= -9223372036854775808) hz mmin rfl
     have k2:=fun w=>gK (w:=w) (y:=9223372036854775807) hz mmax rfl
     rw[MS]at k1
     rw[PS]at k2
     rw[hi]at c1 k1 k2 ⊢
     have hat0:l[0]?=some l[0]:=List.getElem?_eq_getElem hlp
     obtain⟨b0,hb0⟩:∃ b,b=l[0]:=⟨_,rfl⟩
     have hb0D:=hlD b0 (by rw[hb0];exact List.getElem_mem _)
     rw[<-hb0]at hat0
     unfold lG at hb0D
     apply jL
     unfold iG
     refine fA cp c1 fun w1 x1=>?_
     (refine ct ?_;refine ah ?_;refine ah ?_)
     refine fA dp (k1 w1) fun w2 x2=>?_
     (refine ah ?_;(refine cD ?_ ?_;focus omega);refine aw ?_;refine ah ?_;refine ah ?_)
     refine fA dp (k2 w2) fun w3 x3=>?_
     (refine ah ?_;(refine d9 ?_ ?_;focus omega);refine aw ?_;refine cf ?_)
     have h3:=(x1.tr x2).tr x3
     obtain⟨I,hI⟩:∃ I:Value->Value->World->Prop,I=(fun n i W=>W=w3/\∃ j:Nat,j<=l.length/\i=.int .i64 j/\n=.int .i64 (dv (l.take j))):=⟨_,rfl⟩
     obtain⟨μ,hμ⟩:∃ μ:Value->Value->World->Nat,μ=(fun _ i _=>match i with | .int _ i'=>(l.length - i').toNat | _=>0):=⟨_,rfl⟩
     refine uN.mk I μ (by rw[hI];exact⟨rfl,0,by omega,rfl,rfl⟩) ?_
     intro n i W hh
     rw[hI]at hh
     obtain⟨rfl,j,hj,rfl,rfl⟩:=hh
     by_cases hjl:j < l.length
     ·have hat:l[j]?=some l[j]:=List.getElem?_eq_getElem hjl
      obtain⟨b,hb⟩:∃ b,b=l[j]:=⟨_,rfl⟩
      have hbD:=hlD b (by rw[hb];exact List.getElem_mem _)
      have hst:=Hq hjl
      have hle:=AE l (j+1)
      rw[<-hb]at hat hst
      unfold lG at hbD
      ((refine eh ?_ ?_;(focus assumption));(refine cy ?_ ?_;focus omega);refine co ?_)
      refine qy (j:=j) rfl hat (by omega) ?_
      ((refine io ?_ ?_;focus omega);refine cf ?_)
      refine qy (j:=j) rfl hat (by omega) ?_
      refine F9 (by omega) (by omega) (PD (by omega) (by omega) ?_)
      refine qy (j:=0) rfl hat0 (by omega) ?_
      ((refine io ?_ ?_;focus omega);refine cf ?_)
      refine KT (by omega) (by omega) ?_
      ((refine cF ?_ ?_ ?_;(focus omega);(focus omega));(refine cF ?_ ?_ ?_;(focus omega);(focus omega)))
      rw[hI,hμ]
      exact⟨⟨rfl,j+1,by omega,by push_cast;rfl,by rw[hst];congr 1;omega⟩,by simp only[];omega⟩
     ·have ht:dv (l.take j)=z.natAbs:=by rw[List.take_of_length_le (by omega),hdv]
      ((refine eh ?_ ?_;(focus assumption));(refine cD ?_ ?_;focus omega);refine cf ?_)
      refine bQ.mk ⟨h3,?_⟩
      rw[ht]
      congr 3
      simp;omega
def HN(w:World):Prop:=(∃ tp p,w.var? prog "strconv.ErrSyntax"=some #[.iface tp p])/\∃ tp p,w.var? prog "strconv.ErrRange"=some #[.iface tp p]
theorem Fz:∃ g,prog.globalNamed "strconv.ErrSyntax"=some g:=Option.isSome_iff_exists.1 (by kernel_rfl)
theorem FA:∃ g,prog.globalNamed "strconv.ErrRange"=some g:=Option.isSome_iff_exists.1 (by kernel_rfl)
theorem HN.ext{w w':World}(h:HN w)(he:bK w w'):HN w':=by
 obtain⟨⟨tp,p,h1⟩,tp',p',h2⟩:=h
 obtain⟨g,hg⟩:=Fz
 obtain⟨g',hg'⟩:=FA
 exact⟨⟨tp,p,Joins.var_stays hg h1 he (Nat.le_refl _)⟩,tp',p',Joins.var_stays hg' h2 he (Nat.le_refl _)⟩
theorem wH{s:List UInt8}{w:World}(hs:s.length<=1000000)(he:HN w):
 Calls prog 76 #[bh s] w (bQ fun r w'=>bK w w'/\((∃ v,Lib.atoiAll s=.ok v/\r=.tuple #[.int .i64 v,.nilIface])\/(∃ n b,(∀ v,Lib.atoiAll s≠.ok v)/\r=.tuple #[.int .i64 n,.iface 186 (.pointer (some ⟨b,0,none⟩))]))):=by
 obtain⟨⟨tp,p,h1⟩,tp',p',h2⟩:=he
 have hsz:(ByteArray.mk s.toArray).size=s.length:=rfl
 cases hv:Lib.atoiAll s
 ·next v=>
  refine(Tryz.strconv_Atoi_ok ⟨s.toArray⟩ (by omega) v hv w).mono ?_
  rintro _ w' ⟨rfl,rfl | ⟨t,rfl⟩⟩
  ·exact bQ.mk ⟨.refl _,.inl ⟨v,rfl,rfl⟩⟩
  ·exact bQ.mk ⟨Lib.bytesWorld_below _ _ _,.inl ⟨v,rfl,rfl⟩⟩
 ·refine(Any.strconv_Atoi_syntax_var Tryz.laysC172 ⟨s.toArray⟩ (by omega) hv tp p w h1).mono ?_
  rintro _ w' ⟨N,rfl,_,_,hb⟩
  exact bQ.mk ⟨hb,.inr ⟨_,N,by simp,rfl⟩⟩
 ·refine(Tryz.strconv_Atoi_range_var ⟨s.toArray⟩ (by omega) hv tp' p' w h2).mono ?_
  rintro _ w' ⟨N,rfl,_,_,hb⟩
  exact bQ.mk ⟨hb,.inr ⟨_,N,by simp,rfl⟩⟩
theorem G0{k:Int}{w:World}(h0:0<=k)(h1:k<=1000):Calls prog 169 #[.int .i64 k] w (bQ fun r w'=>bK w w'/\r=bh (Lib.itoa (rB k))):=by
 obtain⟨n,rfl⟩:∃ n:Nat,k=n:=⟨k.toNat,by omega⟩
 apply A9
 unfold uf
 obtain⟨I,hI⟩:∃ I:Value->Value->World->Prop,I=(fun s i W=>∃ j:Nat,j<=n/\s=bh (49::List.replicate j 48)/\i=.int .i64 j/\W=w):=⟨_,rfl⟩
 obtain⟨μ,hμ⟩:∃ μ:Value->Value->World->Nat,μ=(fun _ i _=>match i with | .int _ i'=>n - i'.toNat | _=>0):=⟨_,rfl⟩
 refine uN.mk I μ (by rw[hI];exact⟨0,by omega,rfl,rfl,rfl⟩) ?_
 intro s i W hh
 rw[hI]at hh
 obtain⟨j,hj,rfl,rfl,rfl⟩:=hh
 by_cases hjn:j < n
 ·refine cy (by omega) (co (Kx (by simp;omega) ?_))
  refine cF (by omega) (by omega) ?_
  rw[hI,hμ]
  refine⟨⟨j+1,by omega,?_,by simp,rfl⟩,?_⟩
  ·rw[List.replicate_succ'];rfl
  ·show n - ((j:Int)+1).toNat < n - (j:Int).toNat
   omega
 ·refine cD (by omega) (cf ?_)
  refine bQ.mk ⟨.refl _,?_⟩
  rw[GZ (k:=(n:Int)) (n:=j) (by omega)]
section
variable{n d:List UInt8}{k:Int}{w:World}(hn:n.length<=1000000)(hd:d.length<=1000000)
include hn hd
theorem FB(h:¬(kB n d/\0<=k/\k<=30)):Calls prog 138 #[.agg #[bh n,bh d],.int .i64 k] w (bQ fun r w'=>bK w w'/\r=.tuple #[bh [],bh [],bh [],.bool false]):=by
 apply qf
 unfold mN
 refine kT fun g w1 x1 hg _ b1=>?_
 refine kV b1 ?_
 have v1:=eK (w:=w1) hn hd
 by_cases o:kB n d
 ·rw[iu o]at v1
  refine fA cN v1 fun w2 x2=>?_
  by_cases h0:0<=k
  ·have h30:¬k<=30:=fun h'=>h ⟨o,h0,h'⟩
   (refine ct ?_;refine ah ?_;refine ah ?_;(refine cD ?_ ?_;focus omega);refine aw ?_;refine ah ?_;refine ah ?_;(refine eB ?_ ?_;focus omega);refine aw ?_;refine co ?_)
   exact bQ.mk ⟨x1.tr x2,rfl⟩
  ·(refine ct ?_;refine ah ?_;refine ah ?_;(refine cy ?_ ?_;focus omega);refine aw ?_;refine aR ?_;refine aR ?_;refine aQ ?_;refine co ?_)
   exact bQ.mk ⟨x1.tr x2,rfl⟩
 ·rw[jd o]at v1
  refine fA cN v1 fun w2 x2=>?_
  (refine d7 ?_;refine aR ?_;refine aR ?_;refine aQ ?_;refine aR ?_;refine aR ?_;refine aQ ?_;refine co ?_)
  exact bQ.mk ⟨x1.tr x2,rfl⟩
end
section
variable{x:Rat}{k:Int}{w:World}(hx:RB x)(h0:0<=k)(h1:k<=30)
include hx h0 h1
theorem FC(h:¬(x.num * rB k).natAbs < cr):Calls prog 138 #[fq x,.int .i64 k] w (bQ fun r w'=>bK w w'/\r=.tuple #[bh [],bh [],bh [],.bool false]):=by
 apply qf
 unfold mN
 refine kT fun g w1 x1 hg _ b1=>?_
 refine kV b1 ?_
 have v1:=eK (w:=w1) (cv hx.n) (cv hx.d)
 rw[iu (ni.2 hx)]at v1
 refine fA cN v1 fun w2 x2=>?_
 replace b1:=b1.ext x2
 (refine ct ?_;refine ah ?_;refine ah ?_;(refine cD ?_ ?_;focus omega);refine aw ?_;refine ah ?_;refine ah ?_;(refine d9 ?_ ?_;focus omega);refine aw ?_;refine cf ?_)
 refine fA ug (G0 h0 (by omega)) fun w3 x3=>?_
 replace b1:=b1.ext x3
 refine xX b1 ?_
 have c1:=uA (w:=w3) hx.n (nZ h1)
 rw[yX h]at c1
 refine pU jl c1 fun w4 x4=>?_
 ((refine gi ?_ ?_;focus omega);refine co ?_)
 exact bQ.mk ⟨((x1.tr x2).tr x3).tr x4,rfl⟩
theorem HO(h:(x.num * rB k).natAbs < cr):Calls prog 138 #[fq x,.int .i64 k] w (bQ fun r w'=>bK w w'/\r=.tuple #[bh (Lib.itoa ((x.num * rB k) / (x.den:Int))),bh (Lib.itoa ((x.num * rB k) % (x.den:Int))),bh (Lib.itoa (rB k)),.bool true]):=by
 apply qf
 unfold mN
 refine kT fun g w1 x1 hg _ b1=>?_
 refine kV b1 ?_
 have v1:=eK (w:=w1) (cv hx.n) (cv hx.d)
 rw[iu (ni.2 hx)]at v1
 refine fA cN v1 fun w2 x2=>?_
 replace b1:=b1.ext x2
 (refine ct ?_;refine ah ?_;refine ah ?_;(refine cD ?_ ?_;focus omega);refine aw ?_;refine ah ?_;refine ah ?_;(refine d9 ?_ ?_;focus omega);refine aw ?_;refine cf ?_)
 refine fA ug (G0 h0 (by omega)) fun w3 x3=>?_
 replace b1:=b1.ext x3
 refine xX b1 ?_
 have c1:=uA (w:=w3) hx.n (nZ h1)
 rw[Cb h,gh h]at c1
 refine pU jl c1 fun w4 x4=>?_
 replace b1:=b1.ext x4
 ((refine cE ?_ ?_;focus omega);refine cf ?_)
 refine yC b1 ?_
 refine MF lZ (zL h hx.d (Int.ne_of_gt (den_pos x))) fun w5 x5=>?_
 ((refine ea ?_ ?_;focus omega))
 exact bQ.mk ⟨(((x1.tr x2).tr x3).tr x4).tr x5,rfl⟩
end
section
variable{n d:List UInt8}{k:Int}{w:World}(hn:n.length<=1000000)(hd:d.length<=1000000)
include hn hd
theorem Ml:Calls prog 99 #[.agg #[bh n,bh d],.int .i64 k] w (bQ fun r w'=>bK w w'/\r=rv (E9 (ko false k) gq n d)):=by
 by_cases o:kB n d/\0<=k/\k<=30
 ·obtain⟨⟨x,rfl,rfl,hx⟩,h0,h1⟩:=o
  rw[s7 hx]
  have eN:vf false x k=(x.num * rB k) / (x.den:Int):=by unfold vf;rw[if_neg (by simp)]
  by_cases hb:(x.num * rB k).natAbs < cr
  ·have hq:=je (q:=(x.den:Int)) hb
   have e:ko false k x=ie ((x.num * rB k) / (x.den:Int)) (rB k):=by
    unfold ko;rw[if_pos ⟨⟨h0,h1⟩,hb,by rw[eN];exact hq⟩,eN,BO]
   rw[e]
   apply p8
   unfold mL
   refine kT fun g2 w1 x1 hg2 _ b2=>?_
   refine tG fun g4 w3 x3 hg4 _ b4=>?_
   refine kV (b2.ext x3) ?_
   have hw0:w.heap.size<=g4:=by have:=x1.size;omega
   refine Iv qg (HO hx h0 h1 hb) fun w4 x4=>?_
   (refine ct ?_;refine cf ?_)
   refine pU kJ (rt (cv hq) (cv (nZ h1)) hq (nZ h1)) fun w5 x5=>?_
   exact AK ((b4.ext x4).ext x5) (((x1.tr x3).tr x4).tr x5) hw0 rfl
  ·have e:ko false k x=gq:=by unfold ko;rw[if_neg (fun h=>hb h.2.1)]
   rw[e]
   apply p8
   unfold mL
   refine kT fun g2 w1 x1 hg2 _ b2=>?_
   refine tG fun g4 w3 x3 hg4 _ b4=>?_
   refine kV (b2.ext x3) ?_
   have hw0:w.heap.size<=g4:=by have:=x1.size;omega
   refine Iv qg (FC hx h0 h1 hb) fun w4 x4=>?_
   (refine d7 ?_;refine co ?_)
   exact iZ (b4.ext x4) ((x1.tr x3).tr x4) hw0
 ·have e:E9 (ko false k) gq n d=gq:=by
   by_cases o1:kB n d
   ·obtain⟨x,rfl,rfl,hx⟩:=o1
    rw[s7 hx]
    unfold ko
    rw[if_neg (fun h=>o ⟨⟨x,rfl,rfl,hx⟩,h.1⟩)]
   ·exact Dy o1
  rw[e]
  apply p8
  unfold mL
  refine kT fun g2 w1 x1 hg2 _ b2=>?_
  refine tG fun g4 w3 x3 hg4 _ b4=>?_
  refine kV (b2.ext x3) ?_
  have hw0:w.heap.size<=g4:=by have:=x1.size;omega
  refine Iv qg (FB hn hd o) fun w4 x4=>?_
  (refine d7 ?_;refine co ?_)
  exact iZ (b4.ext x4) ((x1.tr x3).tr x4) hw0
end
end Go.Proofs.YtnkmbjedcjcccaaGreatDoor
