/-
  Contracts and plain lemmas. By an AI agent.
-/
import Derived.Test.YtnkmbjedcjcccaaGreatDoorRefY
set_option linter.all false
namespace Go.Proofs.YtnkmbjedcjcccaaGreatDoor
open Tryz
open Go Go.Eng Go.Proofs Go.Num Go.RowKit
set_option maxRecDepth 100000
def vB(u:List UInt8):Bool:=decide (u≠[]/\u.length<=200/\∀ b∈u,lG b) && (u == [48] || u.head? !=some 48)
theorem BB(s:List UInt8):cI s=(decide (Lib.trimPrefix s [45]≠[]/\(Lib.trimPrefix s [45]).length<=200/\∀ b∈Lib.trimPrefix s [45],lG b) && (s == [48] || (Lib.trimPrefix s [45]).head? !=some 48)):=by
 unfold cI
 rw[Bool.eq_iff_iff]
 simp
theorem zh{s:List UInt8}{w:World}(hl:s.length<=1000000):Calls prog 118 #[bh s] w (bQ fun r w'=>bK w w'/\r=.bool (cI s)):=by
 have hS:prog.underlying 9=some .string:=underlying9
 apply A5
 unfold ub
 refine mE.mk fun K hK=>?_
 have main:∀ u:List UInt8,u.length<=s.length->vB u=cI s->K (bh u) w:=by
  intro u hul hv
  refine hK _ _ ?_
  obtain⟨I,hI⟩:∃ I:Value->World->Prop,I=(fun i W=>W=w/\∃ j:Nat,j<=u.length/\i=.int .i64 j/\∀ b∈u.take j,lG b):=⟨_,rfl⟩
  obtain⟨μ,hμ⟩:∃ μ:Value->World->Nat,μ=(fun i _=>match i with | .int _ i'=>(u.length - i').toNat | _=>0):=⟨_,rfl⟩
  refine jt.mk I μ (by rw[hI];exact⟨rfl,0,by omega,rfl,by simp⟩) ?_
  intro i W hh
  rw[hI]at hh
  obtain⟨rfl,j,hj,rfl,hd⟩:=hh
  by_cases hgo:j < u.length
  ·have hat:u[j]?=some u[j]:=List.getElem?_eq_getElem hgo
   obtain⟨b,hb⟩:∃ b,b=u[j]:=⟨_,rfl⟩
   rw[<-hb]at hat
   have hbm:b∈u:=by rw[hb];exact List.getElem_mem _
   have KQ:¬lG b->false=cI s:=by
    intro h
    rw[<-hv]
    unfold vB
    rw[decide_eq_false (fun hc=>h (hc.2.2 b hbm))];rfl
   by_cases h1:b.toNat < 48
   ·((refine eh ?_ ?_;(focus assumption));(refine cy ?_ ?_;focus omega);refine co ?_)
    refine qy (j:=j) rfl hat (by omega) ?_
    ((refine cy ?_ ?_;focus omega);refine aR ?_;refine aR ?_;refine aR ?_;refine aR ?_;refine aQ ?_;refine co ?_)
    exact bQ.mk ⟨.refl _,by rw[<-KQ (by unfold lG;omega)]⟩
   ·by_cases h2:57 < b.toNat
    ·((refine eh ?_ ?_;(focus assumption));(refine cy ?_ ?_;focus omega);refine co ?_)
     refine qy (j:=j) rfl hat (by omega) ?_
     ((refine cD ?_ ?_;focus omega);refine ah ?_;refine ah ?_;refine ah ?_)
     refine qy (j:=j) rfl hat (by omega) ?_
     (refine ah ?_;(refine eB ?_ ?_;focus omega);refine aw ?_;refine co ?_)
     exact bQ.mk ⟨.refl _,by rw[<-KQ (by unfold lG;omega)]⟩
    ·((refine eh ?_ ?_;(focus assumption));(refine cy ?_ ?_;focus omega);refine co ?_)
     refine qy (j:=j) rfl hat (by omega) ?_
     ((refine cD ?_ ?_;focus omega);refine ah ?_;refine ah ?_;refine ah ?_)
     refine qy (j:=j) rfl hat (by omega) ?_
     (refine ah ?_;(refine d9 ?_ ?_;focus omega);refine aw ?_;refine cf ?_;(refine cF ?_ ?_ ?_;(focus omega);(focus omega)))
     rw[hI,hμ]
     refine⟨⟨rfl,j+1,by omega,by push_cast;rfl,?_⟩,by simp only[];omega⟩
     intro x hx
     rw[List.take_add_one,hat]at hx
     rcases List.mem_append.1 hx with h | h
     ·exact hd x h
     ·simp at h;rw[h];unfold lG;omega
  ·have hall:∀ b∈u,lG b:=by rw[List.take_of_length_le (by omega)]at hd;exact hd
   by_cases hu0:u=[]
   ·have hul0:u.length=0:=by rw[hu0];rfl
    have hv':cI s=false:=by rw[<-hv,hu0];rfl
    rw[hv']
    ((refine eh ?_ ?_;(focus assumption));(refine cD ?_ ?_;focus omega);refine cf ?_;(refine eh ?_ ?_;(focus assumption));(refine d9 ?_ ?_;focus omega);refine aK ?_;refine aK ?_;refine aK ?_;refine aw ?_;refine aK ?_;refine aK ?_;refine aK ?_;refine CR ?_;refine CR ?_;refine CR ?_;refine aK ?_;refine aw ?_)
    exact bQ.mk ⟨.refl _,rfl⟩
   ·have hup:0 < u.length:=List.length_pos_iff.2 hu0
    by_cases h200:u.length<=200
    ·have hbase:decide (u≠[]/\u.length<=200/\∀ b∈u,lG b)=true:=decide_eq_true ⟨hu0,h200,hall⟩
     by_cases h48:(u == [48])=true
     ·have hv':cI s=true:=by rw[<-hv];unfold vB;rw[hbase,h48];rfl
      rw[hv']
      ((refine eh ?_ ?_;(focus assumption));(refine cD ?_ ?_;focus omega);refine cf ?_;(refine eh ?_ ?_;(focus assumption));(refine eB ?_ ?_;focus omega);refine aP ?_;refine aP ?_;(refine eh ?_ ?_;(focus assumption));refine aP ?_;(refine fp ?_ ?_;focus omega);refine aQ ?_;refine aP ?_;refine aP ?_;(refine jw ?_ ?_;focus assumption);refine aP ?_;refine aR ?_;refine aR ?_;refine aR ?_;refine aP ?_;refine aQ ?_;refine aQ ?_)
      exact bQ.mk ⟨.refl _,rfl⟩
     ·have h48':(u == [48])=false:=by simpa using h48
      have hat:u[0]?=some u[0]:=List.getElem?_eq_getElem hup
      obtain⟨b,hb⟩:∃ b,b=u[0]:=⟨_,rfl⟩
      rw[<-hb]at hat
      have hhd:u.head?=some b:=by rw[List.head?_eq_getElem?];exact hat
      by_cases hb48:b.toNat=48
      ·have hv':cI s=false:=by
        rw[<-hv];unfold vB
        rw[hbase,h48',hhd,sV (show b.toNat=(48:UInt8).toNat from hb48)];rfl
       rw[hv']
       ((refine eh ?_ ?_;(focus assumption));(refine cD ?_ ?_;focus omega);refine cf ?_;(refine eh ?_ ?_;(focus assumption));(refine eB ?_ ?_;focus omega);refine aP ?_;refine aP ?_;(refine eh ?_ ?_;(focus assumption));refine aP ?_;(refine fp ?_ ?_;focus omega);refine aQ ?_;refine aP ?_;refine aP ?_;(refine fC ?_ ?_;focus assumption);refine aP ?_;refine ah ?_;refine ah ?_)
       refine qy (j:=0) rfl hat (by omega) ?_
       (refine ah ?_;(refine cE ?_ ?_;focus omega);refine aP ?_;refine aw ?_;refine aQ ?_)
       exact bQ.mk ⟨.refl _,rfl⟩
      ·have hv':cI s=true:=by
        rw[<-hv];unfold vB
        rw[hbase,h48',hhd]
        have:(some b !=some (48:UInt8))=true:=by
         rw[bne_iff_ne];intro hc;simp at hc;rw[hc]at hb48;exact hb48 rfl
        rw[this];rfl
       rw[hv']
       ((refine eh ?_ ?_;(focus assumption));(refine cD ?_ ?_;focus omega);refine cf ?_;(refine eh ?_ ?_;(focus assumption));(refine eB ?_ ?_;focus omega);refine aP ?_;refine aP ?_;(refine eh ?_ ?_;(focus assumption));refine aP ?_;(refine fp ?_ ?_;focus omega);refine aQ ?_;refine aP ?_;refine aP ?_;(refine fC ?_ ?_;focus assumption);refine aP ?_;refine ah ?_;refine ah ?_)
       refine qy (j:=0) rfl hat (by omega) ?_
       (refine ah ?_;(refine gi ?_ ?_;focus omega);refine aP ?_;refine aw ?_;refine aQ ?_)
       exact bQ.mk ⟨.refl _,rfl⟩
    ·have hv':cI s=false:=by
      rw[<-hv];unfold vB
      rw[decide_eq_false (fun hc=>h200 hc.2.1)];rfl
     rw[hv']
     ((refine eh ?_ ?_;(focus assumption));(refine cD ?_ ?_;focus omega);refine cf ?_;(refine eh ?_ ?_;(focus assumption));(refine eB ?_ ?_;focus omega);refine aP ?_;refine aP ?_;(refine eh ?_ ?_;(focus assumption));refine aP ?_;(refine jg ?_ ?_;focus omega);refine aQ ?_;refine aK ?_;refine aK ?_;refine aK ?_;refine CR ?_;refine CR ?_;refine CR ?_;refine aK ?_;refine aw ?_)
     exact bQ.mk ⟨.refl _,rfl⟩
 cases s with
 | nil=>
  refine eh hS ?_
  refine d9 (by simp) ?_
  (refine aK ?_;refine aK ?_;refine aK ?_;refine aw ?_;refine cf ?_)
  exact main [] (Nat.le_refl _) rfl
 | cons a r=>
  have hrl:r.length+1<=1000000:=by simpa using hl
  have hlen:(a::r).length=r.length+1:=rfl
  by_cases ha:a.toNat=45
  ·have ha':a=45:=sV (show a.toNat=(45:UInt8).toNat from ha)
   have hne:((45:UInt8)::r == [48])=false:=by
    rw[beq_eq_false_iff_ne];intro hc;simp at hc
   have hv:cI (a::r)=(decide (r≠[]/\r.length<=200/\∀ b∈r,lG b) && (r.head? !=some 48)):=by
    rw[BB,ha',Ar,hne,Bool.false_or]
   ((refine eh ?_ ?_;(focus assumption));(refine eB ?_ ?_;focus omega);refine aP ?_;refine aP ?_)
   refine qy (l:=a::r) (j:=0) (b:=a) rfl rfl (by omega) ?_
   (refine aP ?_;(refine ea ?_ ?_;focus omega);refine aQ ?_;refine co ?_)
   refine RP (by omega) ?_
   by_cases h48:(r == [48])=true
   ·have hr:r=[48]:=by simpa using h48
    have hf:cI (a::r)=false:=by rw[hv,hr];rfl
    rw[hf]
    ((refine jw ?_ ?_;focus assumption);refine co ?_)
    exact bQ.mk ⟨.refl _,rfl⟩
   ·have h48':(r == [48])=false:=by simpa using h48
    ((refine fC ?_ ?_;focus assumption);refine cf ?_)
    refine main r (by simp) ?_
    rw[hv];unfold vB
    rw[h48',Bool.false_or]
  ·have hhd:(a::r).head?≠some 45:=by
    intro hc;simp at hc;rw[hc]at ha;exact ha rfl
   have hv:vB (a::r)=cI (a::r):=by rw[BB,Au hhd];rfl
   ((refine eh ?_ ?_;(focus assumption));(refine eB ?_ ?_;focus omega);refine aP ?_;refine aP ?_)
   refine qy (l:=a::r) (j:=0) (b:=a) rfl rfl (by omega) ?_
   (refine aP ?_;(refine io ?_ ?_;focus omega);refine aQ ?_;refine cf ?_)
   exact main (a::r) (Nat.le_refl _) hv
theorem pn(z:Int):sg (decide (z < 0)) z.natAbs=z:=by unfold sg;split <;> simp at * <;> omega
theorem Jg{w:World}{a b:Bool}{u v:Value}{m n:Int}(hu:nQ w u m)(hv:nQ w v n)(hm:m < cr)(hn:n < cr):
 Calls prog 163 #[.bool a,u,.bool b,v] w (bQ fun r w'=>bK w w'/\r=jE (sg a m+sg b n)):=by
 have hM:=kR
 have hp:=gY
 obtain⟨xs,x1,x2,rfl,x4⟩:=hu.get (by omega)
 obtain⟨ys,y1,y2,rfl,y4⟩:=hv.get (by omega)
 have hx0:=ed x2.1
 have hy0:=ed y2.1
 have hB:=underlying4
 have fin:∀(neg:Bool) (r:Value) (q:Int) (W:World),bK w W->nQ W r q->q < Mx->sg neg q=sg a (ci xs)+sg b (ci ys)->
  Cl prog 125 #[.bool neg,r] W (Pk (bQ fun r w'=>bK w w'/\r=jE (sg a (ci xs)+sg b (ci ys)))) fun t32 w_1=>Ex t32 0 w_1 fun t33 w_1=>Ex t32 1 w_1 fun t34 w_1=>
   bQ (fun r w'=>bK w w'/\r=jE (sg a (ci xs)+sg b (ci ys))) (.returned (.tuple #[t33,t34])) w_1:=by
  intro neg r q W hW hr hq he
  obtain⟨p,p',hpp⟩:=lJ (sg neg q)
  refine pU fS (bQ.lit (lF hr hq) hpp) fun W2 h2=>?_
  exact bQ.mk ⟨hW.tr h2,by rw[<-hpp,he]⟩
 cases a <;> cases b
 ·apply oz
  unfold ma
  refine vt.mk fun K hK=>?_
  ((refine yI ?_ ?_ ?_;(focus assumption);(focus decide));refine co ?_)
  refine cu mM (yO x1 y1 x2 y2 (by omega) (by omega)) ?_
  rintro r W ⟨hW,hr⟩
  refine hK _ _ _ ?_
  exact fin _ _ _ _ hW hr (by omega) (by simp[sg])
 ·apply oz
  unfold ma
  refine vt.mk fun K hK=>?_
  ((refine yJ ?_ ?_ ?_;(focus assumption);(focus decide));refine cf ?_)
  refine fA jQ (v8 x1 y1 x2 y2 (by omega) (by omega)) fun W1 h1=>?_
  by_cases hle:ci ys<=ci xs
  ·have hc:=tw hle
   ((refine ft ?_ ?_;focus omega);refine co ?_)
   refine cu hU (nR (eI.ext x1 h1) (eI.ext y1 h1) x2 y2 (by omega) hle) ?_
   rintro r W ⟨hW,hr,_⟩
   refine hK _ _ _ ?_
   exact fin _ _ _ _ (h1.tr hW) hr (by omega) (by simp[sg] <;> omega)
  ·have hc:dK (ci xs) (ci ys) < 0:=by rw[iU (by omega)];decide
   ((refine jB ?_ ?_;focus omega);refine cf ?_)
   refine cu hU (nR (eI.ext y1 h1) (eI.ext x1 h1) y2 x2 (by omega) (by omega)) ?_
   rintro r W ⟨hW,hr,_⟩
   refine hK _ _ _ ?_
   exact fin _ _ _ _ (h1.tr hW) hr (by omega) (by simp[sg] <;> omega)
 ·apply oz
  unfold ma
  refine vt.mk fun K hK=>?_
  ((refine yJ ?_ ?_ ?_;(focus assumption);(focus decide));refine cf ?_)
  refine fA jQ (v8 x1 y1 x2 y2 (by omega) (by omega)) fun W1 h1=>?_
  by_cases hle:ci ys<=ci xs
  ·have hc:=tw hle
   ((refine ft ?_ ?_;focus omega);refine co ?_)
   refine cu hU (nR (eI.ext x1 h1) (eI.ext y1 h1) x2 y2 (by omega) hle) ?_
   rintro r W ⟨hW,hr,_⟩
   refine hK _ _ _ ?_
   exact fin _ _ _ _ (h1.tr hW) hr (by omega) (by simp[sg] <;> omega)
  ·have hc:dK (ci xs) (ci ys) < 0:=by rw[iU (by omega)];decide
   ((refine jB ?_ ?_;focus omega);refine cf ?_)
   refine cu hU (nR (eI.ext y1 h1) (eI.ext x1 h1) y2 x2 (by omega) (by omega)) ?_
   rintro r W ⟨hW,hr,_⟩
   refine hK _ _ _ ?_
   exact fin _ _ _ _ (h1.tr hW) hr (by omega) (by simp[sg] <;> omega)
 ·apply oz
  unfold ma
  refine vt.mk fun K hK=>?_
  ((refine yI ?_ ?_ ?_;(focus assumption);(focus decide));refine co ?_)
  refine cu mM (yO x1 y1 x2 y2 (by omega) (by omega)) ?_
  rintro r W ⟨hW,hr⟩
  refine hK _ _ _ ?_
  exact fin _ _ _ _ hW hr (by omega) (by simp[sg] <;> omega)
theorem SK{b:Bool}{w:World}{K:Value->World->Prop}(hk:K (.bool (!b)) w):Un prog .not (.bool b) w K:=by
 cases b
 ·exact d7 hk
 ·exact ct hk
theorem N8(b:Bool)(n:Int):sg (!b) n= - sg b n:=by cases b <;> simp[sg]
theorem N9(x y:Int):sg (decide (x < 0) !=decide (y < 0)) ((x.natAbs:Int) * y.natAbs)=x * y:=by
 by_cases hx:x < 0
 ·have ex:(x.natAbs:Int)= -x:=by omega
  by_cases hy:y < 0
  ·have ey:(y.natAbs:Int)= -y:=by omega
   simp[sg,hx,hy,ex,ey,Int.neg_mul,Int.mul_neg]
  ·have ey:(y.natAbs:Int)=y:=by omega
   simp[sg,hx,hy,ex,ey,Int.neg_mul,Int.mul_neg]
 ·have ex:(x.natAbs:Int)=x:=by omega
  by_cases hy:y < 0
  ·have ey:(y.natAbs:Int)= -y:=by omega
   simp[sg,hx,hy,ex,ey,Int.neg_mul,Int.mul_neg]
  ·have ey:(y.natAbs:Int)=y:=by omega
   simp[sg,hx,hy,ex,ey,Int.neg_mul,Int.mul_neg]
theorem fX{z:Int}{w:World}{b:Bool}(hz:z.natAbs < cr)(hb:decide (z < 0)=b):Calls prog 121 #[bh (Lib.itoa z)] w (bQ (PG w b z.natAbs)):=hb ▸ kN hz
theorem Ir{x:Int}(hx:x.natAbs < cr)(w:World):Calls prog 118 #[bh (Lib.itoa x)] w (bQ fun r w'=>bK w w'/\r=.bool true):=by
 have:=zh (w:=w) (cv hx)
 rw[gZ hx]at this
 exact this
section
variable{x y:Int}{w:World}(hx:x.natAbs < cr)(hy:y.natAbs < cr)
include hx hy
theorem Oa:Calls prog 162 #[bh (Lib.itoa x),bh (Lib.itoa y)] w (bQ fun r w'=>bK w w'/\r=jE (x+y)):=by
 have vx:=Ir hx
 have vy:=Ir hy
 apply Ev
 unfold xF
 refine fA cp (vx w) fun w1 h1=>?_
 (refine ct ?_;refine ah ?_;refine ah ?_)
 refine fA cp (vy w1) fun w2 h2=>?_
 have h2:=h1.tr h2
 (refine ah ?_;refine ct ?_;refine aw ?_;refine cf ?_)
 refine cu cJ (kN hx) ?_
 rintro _ w3 ⟨h3,u,rfl,hu⟩
 have h3:=h2.tr h3
 refine gN (cu cJ (kN hy) ?_)
 rintro _ w4 ⟨h4,v,rfl,hv⟩
 have hu:=hu.ext h4
 have h4:=h3.tr h4
 refine gN ?_
 obtain⟨p,p',hpp⟩:=lJ (x+y)
 refine pU xH (bQ.lit (Jg hu hv (by omega) (by omega)) (by rw[pn,pn,hpp])) fun w5 h5=>?_
 exact bQ.mk ⟨h4.tr h5,hpp.symm⟩
theorem Jh:Calls prog 130 #[bh (Lib.itoa x),bh (Lib.itoa y)] w (bQ fun r w'=>bK w w'/\r=jE (x - y)):=by
 have vx:=Ir hx
 have vy:=Ir hy
 apply Es
 unfold xD
 refine fA cp (vx w) fun w1 h1=>?_
 (refine ct ?_;refine ah ?_;refine ah ?_)
 refine fA cp (vy w1) fun w2 h2=>?_
 have h2:=h1.tr h2
 (refine ah ?_;refine ct ?_;refine aw ?_;refine cf ?_)
 refine cu cJ (kN hx) ?_
 rintro _ w3 ⟨h3,u,rfl,hu⟩
 have h3:=h2.tr h3
 refine gN (cu cJ (kN hy) ?_)
 rintro _ w4 ⟨h4,v,rfl,hv⟩
 have hu:=hu.ext h4
 have h4:=h3.tr h4
 refine gN (SK ?_)
 obtain⟨p,p',hpp⟩:=lJ (x - y)
 refine pU xH (bQ.lit (Jg hu hv (by omega) (by omega)) (by rw[N8,pn,pn,<-Int.sub_eq_add_neg,hpp])) fun w5 h5=>?_
 exact bQ.mk ⟨h4.tr h5,hpp.symm⟩
theorem Ff:Calls prog 85 #[bh (Lib.itoa x),bh (Lib.itoa y)] w (bQ fun r w'=>bK w w'/\r=.int .i64 (dK x y)):=by
 have vx:=Ir hx
 have vy:=Ir hy
 have hM:=kR
 have hp:=gY
 have hB:=underlying4
 by_cases hx0:x < 0
 ·by_cases hy0:y < 0
  ·apply jY
   unfold iy
   refine fA cp (vx w) fun w1 h1=>?_
   (refine ct ?_;refine ah ?_;refine ah ?_)
   refine fA cp (vy w1) fun w2 h2=>?_
   have h2:=h1.tr h2
   (refine ah ?_;refine ct ?_;refine aw ?_;refine cf ?_)
   refine cu cJ (fX (b:=true) hx (by simp;omega)) ?_
   rintro _ w3 ⟨h3,u,rfl,hu⟩
   have h3:=h2.tr h3
   refine gN (cu cJ (fX (b:=true) hy (by simp;omega)) ?_)
   rintro _ w4 ⟨h4,v,rfl,hv⟩
   have hu:=hu.ext h4
   have h4:=h3.tr h4
   refine gN ?_
   ((refine tu ?_ ?_ ?_;(focus assumption);(focus decide));refine cf ?_;refine co ?_)
   obtain⟨xs,x1,x2,x3,x4⟩:=hu.get (by omega)
   obtain⟨ys,y1,y2,y3,y4⟩:=hv.get (by omega)
   refine fA jQ (v8 y1 x1 y2 x2 (by omega) (by omega)) fun w5 h5=>?_
   refine bQ.mk ⟨h4.tr h5,?_⟩
   rw[x3,y3]
   congr 1
   unfold dK
   repeat' split
   all_goals first | rfl | omega
  ·apply jY
   unfold iy
   refine fA cp (vx w) fun w1 h1=>?_
   (refine ct ?_;refine ah ?_;refine ah ?_)
   refine fA cp (vy w1) fun w2 h2=>?_
   have h2:=h1.tr h2
   (refine ah ?_;refine ct ?_;refine aw ?_;refine cf ?_)
   refine cu cJ (fX (b:=true) hx (by simp;omega)) ?_
   rintro _ w3 ⟨h3,u,rfl,hu⟩
   have h3:=h2.tr h3
   refine gN (cu cJ (fX (b:=false) hy (by simp;omega)) ?_)
   rintro _ w4 ⟨h4,v,rfl,hv⟩
   have hu:=hu.ext h4
   have h4:=h3.tr h4
   refine gN ?_
   ((refine tt ?_ ?_ ?_;(focus assumption);(focus decide));refine co ?_;refine co ?_)
   exact bQ.mk ⟨h4,by rw[iU (by omega)]⟩
 ·by_cases hy0:y < 0
  ·apply jY
   unfold iy
   refine fA cp (vx w) fun w1 h1=>?_
   (refine ct ?_;refine ah ?_;refine ah ?_)
   refine fA cp (vy w1) fun w2 h2=>?_
   have h2:=h1.tr h2
   (refine ah ?_;refine ct ?_;refine aw ?_;refine cf ?_)
   refine cu cJ (fX (b:=false) hx (by simp;omega)) ?_
   rintro _ w3 ⟨h3,u,rfl,hu⟩
   have h3:=h2.tr h3
   refine gN (cu cJ (fX (b:=true) hy (by simp;omega)) ?_)
   rintro _ w4 ⟨h4,v,rfl,hv⟩
   have hu:=hu.ext h4
   have h4:=h3.tr h4
   refine gN ?_
   ((refine tt ?_ ?_ ?_;(focus assumption);(focus decide));refine co ?_;refine cf ?_)
   exact bQ.mk ⟨h4,by rw[kS (by omega)]⟩
  ·apply jY
   unfold iy
   refine fA cp (vx w) fun w1 h1=>?_
   (refine ct ?_;refine ah ?_;refine ah ?_)
   refine fA cp (vy w1) fun w2 h2=>?_
   have h2:=h1.tr h2
   (refine ah ?_;refine ct ?_;refine aw ?_;refine cf ?_)
   refine cu cJ (fX (b:=false) hx (by simp;omega)) ?_
   rintro _ w3 ⟨h3,u,rfl,hu⟩
   have h3:=h2.tr h3
   refine gN (cu cJ (fX (b:=false) hy (by simp;omega)) ?_)
   rintro _ w4 ⟨h4,v,rfl,hv⟩
   have hu:=hu.ext h4
   have h4:=h3.tr h4
   refine gN ?_
   ((refine tu ?_ ?_ ?_;(focus assumption);(focus decide));refine cf ?_;refine cf ?_)
   obtain⟨xs,x1,x2,x3,x4⟩:=hu.get (by omega)
   obtain⟨ys,y1,y2,y3,y4⟩:=hv.get (by omega)
   refine fA jQ (v8 x1 y1 x2 y2 (by omega) (by omega)) fun w5 h5=>?_
   refine bQ.mk ⟨h4.tr h5,?_⟩
   rw[x3,y3]
   congr 1
   unfold dK
   repeat' split
   all_goals first | rfl | omega
theorem Ob:Calls prog 160 #[bh (Lib.itoa x),bh (Lib.itoa y)] w (bQ fun r w'=>bK w w'/\r=jE (x * y)):=by
 have vx:=Ir hx
 have vy:=Ir hy
 have hM:=kR
 have hp:=gY
 have hB:=underlying4
 apply Eu
 unfold xE
 refine fA cp (vx w) fun w1 h1=>?_
 (refine ct ?_;refine ah ?_;refine ah ?_)
 refine fA cp (vy w1) fun w2 h2=>?_
 have h2:=h1.tr h2
 (refine ah ?_;refine ct ?_;refine aw ?_;refine cf ?_)
 refine cu cJ (kN hx) ?_
 rintro _ w3 ⟨h3,u,rfl,hu⟩
 have h3:=h2.tr h3
 refine gN (cu cJ (kN hy) ?_)
 rintro _ w4 ⟨h4,v,rfl,hv⟩
 have hu:=hu.ext h4
 have h4:=h3.tr h4
 refine gN (FW hB rfl ?_)
 have hxM:(x.natAbs:Int) < cr:=by omega
 have hyM:(y.natAbs:Int) < cr:=by omega
 obtain⟨xs,x1,x2,x3,x4⟩:=hu.get (by omega)
 obtain⟨ys,y1,y2,y3,y4⟩:=hv.get (by omega)
 refine cu Bb (KU x1 y1 x2 y2 (by omega) (by omega)) ?_
 rintro r w5 ⟨h5,hr⟩
 rw[x3,y3]at hr
 have h5:=h4.tr h5
 obtain⟨p,p',hpp⟩:=lJ (x * y)
 have hlt:(x.natAbs:Int) * y.natAbs < Mx:=by
  have h1:(x.natAbs:Int) * y.natAbs<=(cr:Int) * cr:=Int.mul_le_mul (by omega) (by omega) (by omega) (by omega)
  have h2:=KX
  have h3:(0:Int)<=(cr:Int) * cr:=Int.mul_nonneg (by omega) (by omega)
  omega
 refine pU fS (bQ.lit (lF hr hlt) (by rw[N9,hpp])) fun w6 h6=>?_
 exact bQ.mk ⟨h5.tr h6,hpp.symm⟩
end
end Go.Proofs.YtnkmbjedcjcccaaGreatDoor
