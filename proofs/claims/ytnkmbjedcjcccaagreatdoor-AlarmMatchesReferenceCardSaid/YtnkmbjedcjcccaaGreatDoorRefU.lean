/-
  Contracts and plain lemmas. By an AI agent.
-/
import Derived.Test.YtnkmbjedcjcccaaGreatDoorRefZ
import Derived.Test.YtnkmbjedcjcccaaGreatDoorStrY
set_option linter.all false
namespace Go.Proofs.YtnkmbjedcjcccaaGreatDoor
open Tryz
open Go Go.Eng Go.Proofs Go.Num Go.RowKit
set_option maxRecDepth 100000
theorem E5{x:Int}(hx:x.natAbs < cr):(x.natAbs:Int) < 10 ^ 200:=by
 have e:((cr:Nat):Int)=10 ^ 200:=by unfold cr;rfl
 rw[<-e];omega
theorem zL{x y:Int}{w:World}(hx:x.natAbs < cr)(hy:y.natAbs < cr)(hy1:y≠0):Calls prog 84 #[bh (Lib.itoa x),bh (Lib.itoa y)] w (bQ fun r w'=>bK w w'/\r=.tuple #[bh (Lib.itoa (x / y)),bh (Lib.itoa (x % y)),.int .i64 0]):=by
 have vx:=Ir hx
 have vy:=Ir hy
 have hM:=kR
 have hp:=gY
 have hB:=underlying4
 have hL:=HZ
 have hyne0:=Bp hy1
 by_cases hx0:x < 0
 ·by_cases hy0:y < 0
  ·apply oi
   unfold lY
   refine fA cp (vx w) fun w1 h1=>?_
   (refine ct ?_;refine ah ?_;refine ah ?_)
   refine fA cp (vy w1) fun w2 h2=>?_
   have h2:=h1.tr h2
   (refine ah ?_;refine ct ?_;refine aw ?_;refine ah ?_;refine ah ?_;(refine fC ?_ ?_;focus assumption);refine aw ?_;refine cf ?_)
   refine cu cJ (fX (b:=true) hx (by simp;omega)) ?_
   rintro _ w3 ⟨h3,u,rfl,hu⟩
   have h3:=h2.tr h3
   refine gN (cu cJ (fX (b:=true) hy (by simp;omega)) ?_)
   rintro _ w4 ⟨h4,v,rfl,hv⟩
   have hu:=hu.ext h4
   have h4:=h3.tr h4
   refine gN ?_
   obtain⟨xs,x1,x2,x3,x4⟩:=hu.bd (k:=200) (E5 hx)
   obtain⟨ys,y1,y2,y3,y4⟩:=hv.bd (k:=200) (E5 hy)
   have hyne:ys≠[]:=by intro hc;rw[hc]at y3;simp[ci]at y3;omega
   refine cu iz (pO x1 y1 x2 y2 (by omega) (by omega) hyne) ?_
   rintro _ w5 ⟨h5,q,r,rfl,hq,hr⟩
   rw[x3,y3]at hq hr
   have h5':=h4.tr h5
   have em:=Int.mul_ediv_add_emod (x.natAbs:Int) y.natAbs
   have r0:=Int.emod_nonneg (x.natAbs:Int) (show(y.natAbs:Int)≠0 by omega)
   have r1:=Int.emod_lt_of_pos (x.natAbs:Int) (show(0:Int) < y.natAbs by omega)
   obtain⟨Q,hQ⟩:∃ Q,Q=(x.natAbs:Int) / y.natAbs:=⟨_,rfl⟩
   obtain⟨R,hR⟩:∃ R,R=(x.natAbs:Int) % y.natAbs:=⟨_,rfl⟩
   rw[<-hQ]at hq em
   rw[<-hR]at hr em r0 r1
   have hq0:=hq.nonneg
   have hqx:Q<=x.natAbs:=by rw[hQ];exact Int.ediv_le_self _ (by omega)
   obtain⟨zs,z1,z2,z3,z4⟩:=hr.bd (k:=200) (by have:=E5 hy;omega)
   obtain⟨a3,cap3,rfl⟩:=z1.slice
   refine gN (vt.mk fun K hK=>?_)
   have fin:∀(u:Value) (Q':Int) (v:Value) (R':Int) W,nQ W u Q'->nQ W v R'->bK w W->R'+y.natAbs * (pf (decide (x < 0)) Q')=x->0<=R'->R' < y.natAbs->0<=Q'->Q' < Mx->K u v W:=by
    intro u' Q' v' R' W hu' hv' hW e1 e2 e3 e4 e5
    obtain⟨d1,d2⟩:=wo (show y≠0 by omega) e1 e2 e3
    have hxy:(!decide (x < 0) == decide (y < 0))=(true !=true):=by rw[show decide (x < 0)=true from by simp;omega,show decide (y < 0)=true from by simp;omega];rfl
    rw[hxy]at d1
    have hsz:(x / y).natAbs < cr:=Nat.lt_of_le_of_lt (Int.natAbs_ediv_le_natAbs x y) hx
    refine hK _ _ _ ?_
    ((refine tu ?_ ?_ ?_;(focus assumption);(focus decide)))
    refine pU fS (bQ.lit (lF hu' e5) (by show jE (pf (true !=true) Q')=_;rw[<-d1,ES hsz])) fun w6 h6=>?_
    obtain⟨rs,p1,p2,p3,p4⟩:=(hv'.ext h6).bd (k:=200) (by have:=E5 hy;omega)
    refine pU jy (tz (neg:=false) p1 p2 (by omega)) fun w7 h7=>?_
    ((refine cE ?_ ?_;focus omega);refine cf ?_)
    refine bQ.mk ⟨(hW.tr h6).tr h7,?_⟩
    rw[d2,p3]
    rfl
   by_cases hR0:R=0
   ·have hzl:zs.length=0:=by
     refine Classical.byContradiction fun hc=>?_
     have:=pQ z2 (by intro h;rw[h]at hc;exact hc rfl)
     omega
    (refine aP ?_;refine aP ?_;(refine dw ?_ ?_;(focus assumption));refine aP ?_;(refine d9 ?_ ?_;focus omega);refine aQ ?_;refine cf ?_)
    exact fin _ _ _ _ _ hq hr h5' (by simp only[pf,decide_eq_true hx0,if_true];rw[Int.mul_neg];omega) r0 r1 hq0 (by omega)
   ·have hzl:0 < zs.length:=by
     refine List.length_pos_iff.2 ?_
     intro hc;rw[hc]at z3;simp[ci]at z3;omega
    (refine aP ?_;refine aP ?_;(refine dw ?_ ?_;(focus assumption));refine aP ?_;(refine eB ?_ ?_;focus omega);refine aQ ?_;refine co ?_)
    refine uO xi rfl (Nat.le_refl w5.heap.size) ?_
    intro v1 w6 o6 g6 _
    have h6:=World.grownBy.ext g6
    obtain⟨qs,q1,q2,q3,q4⟩:=(hq.ext h6).get (by omega)
    refine cu mM (yO (ys:=[1]) q1 o6.slAt q2 ⟨by intro d hd;simp at hd;omega,by decide⟩ (by omega) (by decide)) ?_
    rintro r2 w7 ⟨h7,hr2⟩
    rw[q3]at hr2
    have h67:=h6.tr h7
    refine cu hU (nR (eI.ext y1 (h5.tr h67)) (eI.ext z1 h67) y2 z2 (by omega) (by omega)) ?_
    rintro r3 w8 ⟨h8,hr3,_⟩
    rw[y3,z3]at hr3
    have e10:ci [1]=1:=by simp[ci]
    rw[e10]at hr2
    exact fin _ _ _ _ _ (hr2.ext h8) hr3 ((h5'.tr h67).tr h8) (by simp only[pf,decide_eq_true hx0,if_true];rw[Int.mul_neg,Int.mul_add];omega) (by omega) (by omega) (by omega) (by omega)
  ·apply oi
   unfold lY
   refine fA cp (vx w) fun w1 h1=>?_
   (refine ct ?_;refine ah ?_;refine ah ?_)
   refine fA cp (vy w1) fun w2 h2=>?_
   have h2:=h1.tr h2
   (refine ah ?_;refine ct ?_;refine aw ?_;refine ah ?_;refine ah ?_;(refine fC ?_ ?_;focus assumption);refine aw ?_;refine cf ?_)
   refine cu cJ (fX (b:=true) hx (by simp;omega)) ?_
   rintro _ w3 ⟨h3,u,rfl,hu⟩
   have h3:=h2.tr h3
   refine gN (cu cJ (fX (b:=false) hy (by simp;omega)) ?_)
   rintro _ w4 ⟨h4,v,rfl,hv⟩
   have hu:=hu.ext h4
   have h4:=h3.tr h4
   refine gN ?_
   obtain⟨xs,x1,x2,x3,x4⟩:=hu.bd (k:=200) (E5 hx)
   obtain⟨ys,y1,y2,y3,y4⟩:=hv.bd (k:=200) (E5 hy)
   have hyne:ys≠[]:=by intro hc;rw[hc]at y3;simp[ci]at y3;omega
   refine cu iz (pO x1 y1 x2 y2 (by omega) (by omega) hyne) ?_
   rintro _ w5 ⟨h5,q,r,rfl,hq,hr⟩
   rw[x3,y3]at hq hr
   have h5':=h4.tr h5
   have em:=Int.mul_ediv_add_emod (x.natAbs:Int) y.natAbs
   have r0:=Int.emod_nonneg (x.natAbs:Int) (show(y.natAbs:Int)≠0 by omega)
   have r1:=Int.emod_lt_of_pos (x.natAbs:Int) (show(0:Int) < y.natAbs by omega)
   obtain⟨Q,hQ⟩:∃ Q,Q=(x.natAbs:Int) / y.natAbs:=⟨_,rfl⟩
   obtain⟨R,hR⟩:∃ R,R=(x.natAbs:Int) % y.natAbs:=⟨_,rfl⟩
   rw[<-hQ]at hq em
   rw[<-hR]at hr em r0 r1
   have hq0:=hq.nonneg
   have hqx:Q<=x.natAbs:=by rw[hQ];exact Int.ediv_le_self _ (by omega)
   obtain⟨zs,z1,z2,z3,z4⟩:=hr.bd (k:=200) (by have:=E5 hy;omega)
   obtain⟨a3,cap3,rfl⟩:=z1.slice
   refine gN (vt.mk fun K hK=>?_)
   have fin:∀(u:Value) (Q':Int) (v:Value) (R':Int) W,nQ W u Q'->nQ W v R'->bK w W->R'+y.natAbs * (pf (decide (x < 0)) Q')=x->0<=R'->R' < y.natAbs->0<=Q'->Q' < Mx->K u v W:=by
    intro u' Q' v' R' W hu' hv' hW e1 e2 e3 e4 e5
    obtain⟨d1,d2⟩:=wo (show y≠0 by omega) e1 e2 e3
    have hxy:(!decide (x < 0) == decide (y < 0))=(true !=false):=by rw[show decide (x < 0)=true from by simp;omega,show decide (y < 0)=false from by simp;omega];rfl
    rw[hxy]at d1
    have hsz:(x / y).natAbs < cr:=Nat.lt_of_le_of_lt (Int.natAbs_ediv_le_natAbs x y) hx
    refine hK _ _ _ ?_
    ((refine tt ?_ ?_ ?_;(focus assumption);(focus decide)))
    refine pU fS (bQ.lit (lF hu' e5) (by show jE (pf (true !=false) Q')=_;rw[<-d1,ES hsz])) fun w6 h6=>?_
    obtain⟨rs,p1,p2,p3,p4⟩:=(hv'.ext h6).bd (k:=200) (by have:=E5 hy;omega)
    refine pU jy (tz (neg:=false) p1 p2 (by omega)) fun w7 h7=>?_
    ((refine cE ?_ ?_;focus omega);refine cf ?_)
    refine bQ.mk ⟨(hW.tr h6).tr h7,?_⟩
    rw[d2,p3]
    rfl
   by_cases hR0:R=0
   ·have hzl:zs.length=0:=by
     refine Classical.byContradiction fun hc=>?_
     have:=pQ z2 (by intro h;rw[h]at hc;exact hc rfl)
     omega
    (refine aP ?_;refine aP ?_;(refine dw ?_ ?_;(focus assumption));refine aP ?_;(refine d9 ?_ ?_;focus omega);refine aQ ?_;refine cf ?_)
    exact fin _ _ _ _ _ hq hr h5' (by simp only[pf,decide_eq_true hx0,if_true];rw[Int.mul_neg];omega) r0 r1 hq0 (by omega)
   ·have hzl:0 < zs.length:=by
     refine List.length_pos_iff.2 ?_
     intro hc;rw[hc]at z3;simp[ci]at z3;omega
    (refine aP ?_;refine aP ?_;(refine dw ?_ ?_;(focus assumption));refine aP ?_;(refine eB ?_ ?_;focus omega);refine aQ ?_;refine co ?_)
    refine uO xi rfl (Nat.le_refl w5.heap.size) ?_
    intro v1 w6 o6 g6 _
    have h6:=World.grownBy.ext g6
    obtain⟨qs,q1,q2,q3,q4⟩:=(hq.ext h6).get (by omega)
    refine cu mM (yO (ys:=[1]) q1 o6.slAt q2 ⟨by intro d hd;simp at hd;omega,by decide⟩ (by omega) (by decide)) ?_
    rintro r2 w7 ⟨h7,hr2⟩
    rw[q3]at hr2
    have h67:=h6.tr h7
    refine cu hU (nR (eI.ext y1 (h5.tr h67)) (eI.ext z1 h67) y2 z2 (by omega) (by omega)) ?_
    rintro r3 w8 ⟨h8,hr3,_⟩
    rw[y3,z3]at hr3
    have e10:ci [1]=1:=by simp[ci]
    rw[e10]at hr2
    exact fin _ _ _ _ _ (hr2.ext h8) hr3 ((h5'.tr h67).tr h8) (by simp only[pf,decide_eq_true hx0,if_true];rw[Int.mul_neg,Int.mul_add];omega) (by omega) (by omega) (by omega) (by omega)
 ·by_cases hy0:y < 0
  ·apply oi
   unfold lY
   refine fA cp (vx w) fun w1 h1=>?_
   (refine ct ?_;refine ah ?_;refine ah ?_)
   refine fA cp (vy w1) fun w2 h2=>?_
   have h2:=h1.tr h2
   (refine ah ?_;refine ct ?_;refine aw ?_;refine ah ?_;refine ah ?_;(refine fC ?_ ?_;focus assumption);refine aw ?_;refine cf ?_)
   refine cu cJ (fX (b:=false) hx (by simp;omega)) ?_
   rintro _ w3 ⟨h3,u,rfl,hu⟩
   have h3:=h2.tr h3
   refine gN (cu cJ (fX (b:=true) hy (by simp;omega)) ?_)
   rintro _ w4 ⟨h4,v,rfl,hv⟩
   have hu:=hu.ext h4
   have h4:=h3.tr h4
   refine gN ?_
   obtain⟨xs,x1,x2,x3,x4⟩:=hu.bd (k:=200) (E5 hx)
   obtain⟨ys,y1,y2,y3,y4⟩:=hv.bd (k:=200) (E5 hy)
   have hyne:ys≠[]:=by intro hc;rw[hc]at y3;simp[ci]at y3;omega
   refine cu iz (pO x1 y1 x2 y2 (by omega) (by omega) hyne) ?_
   rintro _ w5 ⟨h5,q,r,rfl,hq,hr⟩
   rw[x3,y3]at hq hr
   have h5':=h4.tr h5
   have em:=Int.mul_ediv_add_emod (x.natAbs:Int) y.natAbs
   have r0:=Int.emod_nonneg (x.natAbs:Int) (show(y.natAbs:Int)≠0 by omega)
   have r1:=Int.emod_lt_of_pos (x.natAbs:Int) (show(0:Int) < y.natAbs by omega)
   obtain⟨Q,hQ⟩:∃ Q,Q=(x.natAbs:Int) / y.natAbs:=⟨_,rfl⟩
   obtain⟨R,hR⟩:∃ R,R=(x.natAbs:Int) % y.natAbs:=⟨_,rfl⟩
   rw[<-hQ]at hq em
   rw[<-hR]at hr em r0 r1
   have hq0:=hq.nonneg
   have hqx:Q<=x.natAbs:=by rw[hQ];exact Int.ediv_le_self _ (by omega)
   obtain⟨zs,z1,z2,z3,z4⟩:=hr.bd (k:=200) (by have:=E5 hy;omega)
   obtain⟨a3,cap3,rfl⟩:=z1.slice
   refine gN (vt.mk fun K hK=>?_)
   have fin:∀(u:Value) (Q':Int) (v:Value) (R':Int) W,nQ W u Q'->nQ W v R'->bK w W->R'+y.natAbs * (pf (decide (x < 0)) Q')=x->0<=R'->R' < y.natAbs->0<=Q'->Q' < Mx->K u v W:=by
    intro u' Q' v' R' W hu' hv' hW e1 e2 e3 e4 e5
    obtain⟨d1,d2⟩:=wo (show y≠0 by omega) e1 e2 e3
    have hxy:(!decide (x < 0) == decide (y < 0))=(false !=true):=by rw[show decide (x < 0)=false from by simp;omega,show decide (y < 0)=true from by simp;omega];rfl
    rw[hxy]at d1
    have hsz:(x / y).natAbs < cr:=Nat.lt_of_le_of_lt (Int.natAbs_ediv_le_natAbs x y) hx
    refine hK _ _ _ ?_
    ((refine tt ?_ ?_ ?_;(focus assumption);(focus decide)))
    refine pU fS (bQ.lit (lF hu' e5) (by show jE (pf (false !=true) Q')=_;rw[<-d1,ES hsz])) fun w6 h6=>?_
    obtain⟨rs,p1,p2,p3,p4⟩:=(hv'.ext h6).bd (k:=200) (by have:=E5 hy;omega)
    refine pU jy (tz (neg:=false) p1 p2 (by omega)) fun w7 h7=>?_
    ((refine cE ?_ ?_;focus omega);refine cf ?_)
    refine bQ.mk ⟨(hW.tr h6).tr h7,?_⟩
    rw[d2,p3]
    rfl
   (refine aK ?_;refine aK ?_;refine aK ?_;refine aw ?_;refine cf ?_)
   exact fin _ _ _ _ _ hq hr h5' (by simp only[pf,decide_eq_false hx0];simp;omega) r0 r1 hq0 (by omega)
  ·apply oi
   unfold lY
   refine fA cp (vx w) fun w1 h1=>?_
   (refine ct ?_;refine ah ?_;refine ah ?_)
   refine fA cp (vy w1) fun w2 h2=>?_
   have h2:=h1.tr h2
   (refine ah ?_;refine ct ?_;refine aw ?_;refine ah ?_;refine ah ?_;(refine fC ?_ ?_;focus assumption);refine aw ?_;refine cf ?_)
   refine cu cJ (fX (b:=false) hx (by simp;omega)) ?_
   rintro _ w3 ⟨h3,u,rfl,hu⟩
   have h3:=h2.tr h3
   refine gN (cu cJ (fX (b:=false) hy (by simp;omega)) ?_)
   rintro _ w4 ⟨h4,v,rfl,hv⟩
   have hu:=hu.ext h4
   have h4:=h3.tr h4
   refine gN ?_
   obtain⟨xs,x1,x2,x3,x4⟩:=hu.bd (k:=200) (E5 hx)
   obtain⟨ys,y1,y2,y3,y4⟩:=hv.bd (k:=200) (E5 hy)
   have hyne:ys≠[]:=by intro hc;rw[hc]at y3;simp[ci]at y3;omega
   refine cu iz (pO x1 y1 x2 y2 (by omega) (by omega) hyne) ?_
   rintro _ w5 ⟨h5,q,r,rfl,hq,hr⟩
   rw[x3,y3]at hq hr
   have h5':=h4.tr h5
   have em:=Int.mul_ediv_add_emod (x.natAbs:Int) y.natAbs
   have r0:=Int.emod_nonneg (x.natAbs:Int) (show(y.natAbs:Int)≠0 by omega)
   have r1:=Int.emod_lt_of_pos (x.natAbs:Int) (show(0:Int) < y.natAbs by omega)
   obtain⟨Q,hQ⟩:∃ Q,Q=(x.natAbs:Int) / y.natAbs:=⟨_,rfl⟩
   obtain⟨R,hR⟩:∃ R,R=(x.natAbs:Int) % y.natAbs:=⟨_,rfl⟩
   rw[<-hQ]at hq em
   rw[<-hR]at hr em r0 r1
   have hq0:=hq.nonneg
   have hqx:Q<=x.natAbs:=by rw[hQ];exact Int.ediv_le_self _ (by omega)
   obtain⟨zs,z1,z2,z3,z4⟩:=hr.bd (k:=200) (by have:=E5 hy;omega)
   obtain⟨a3,cap3,rfl⟩:=z1.slice
   refine gN (vt.mk fun K hK=>?_)
   have fin:∀(u:Value) (Q':Int) (v:Value) (R':Int) W,nQ W u Q'->nQ W v R'->bK w W->R'+y.natAbs * (pf (decide (x < 0)) Q')=x->0<=R'->R' < y.natAbs->0<=Q'->Q' < Mx->K u v W:=by
    intro u' Q' v' R' W hu' hv' hW e1 e2 e3 e4 e5
    obtain⟨d1,d2⟩:=wo (show y≠0 by omega) e1 e2 e3
    have hxy:(!decide (x < 0) == decide (y < 0))=(false !=false):=by rw[show decide (x < 0)=false from by simp;omega,show decide (y < 0)=false from by simp;omega];rfl
    rw[hxy]at d1
    have hsz:(x / y).natAbs < cr:=Nat.lt_of_le_of_lt (Int.natAbs_ediv_le_natAbs x y) hx
    refine hK _ _ _ ?_
    ((refine tu ?_ ?_ ?_;(focus assumption);(focus decide)))
    refine pU fS (bQ.lit (lF hu' e5) (by show jE (pf (false !=false) Q')=_;rw[<-d1,ES hsz])) fun w6 h6=>?_
    obtain⟨rs,p1,p2,p3,p4⟩:=(hv'.ext h6).bd (k:=200) (by have:=E5 hy;omega)
    refine pU jy (tz (neg:=false) p1 p2 (by omega)) fun w7 h7=>?_
    ((refine cE ?_ ?_;focus omega);refine cf ?_)
    refine bQ.mk ⟨(hW.tr h6).tr h7,?_⟩
    rw[d2,p3]
    rfl
   (refine aK ?_;refine aK ?_;refine aK ?_;refine aw ?_;refine cf ?_)
   exact fin _ _ _ _ _ hq hr h5' (by simp only[pf,decide_eq_false hx0];simp;omega) r0 r1 hq0 (by omega)
theorem Pe{x y:Int}{w:World}(hx:x.natAbs < cr)(hy:y.natAbs < cr):Calls prog 119 #[bh (Lib.itoa x),bh (Lib.itoa y)] w (bQ fun r w'=>bK w w'/\r=jE (Int.gcd x y)):=by
 have vx:=Ir hx
 have vy:=Ir hy
 have hM:=kR
 have hp:=gY
 have hL:=HZ
 apply Eo
 unfold xA
 refine fA cp (vx w) fun w1 h1=>?_
 (refine ct ?_;refine ah ?_;refine ah ?_)
 refine fA cp (vy w1) fun w2 h2=>?_
 have h2:=h1.tr h2
 (refine ah ?_;refine ct ?_;refine aw ?_;refine cf ?_)
 refine cu cJ (kN hx) ?_
 rintro _ w3 ⟨h3,u,rfl,hu⟩
 have h3:=h2.tr h3
 refine gN (cu cJ (kN hy) ?_)
 rintro _ w4 ⟨h4,v,rfl,hv⟩
 have hu:=hu.ext h4
 have h4:=h3.tr h4
 refine gN ?_
 obtain⟨I,hI⟩:∃ I:Value->Value->World->Prop,I=fun k l W=>∃ a b:Nat,nQ W k a/\nQ W l b/\Nat.gcd a b=Int.gcd x y/\a < cr/\b < cr/\bK w W:=⟨_,rfl⟩
 refine uN.mk I (fun _ l W=>(dV W l).toNat) (by rw[hI];exact⟨x.natAbs,y.natAbs,hu,hv,rfl,hx,hy,h4⟩) ?_
 intro k l W hh
 rw[hI]at hh
 obtain⟨a,b,ka,lb,hg,ha,hb,hW⟩:=hh
 have hdl:=EO lb
 have hbd:∀ n:Nat,n < cr->(n:Int) < 10 ^ 200:=fun n hn=>by
  have e:((cr:Nat):Int)=10 ^ 200:=by unfold cr;rfl
  rw[<-e];omega
 obtain⟨zs,z1,z2,z3,z4⟩:=lb.bd (k:=200) (hbd b hb)
 obtain⟨a4,cap4,rfl⟩:=z1.slice
 by_cases hb0:b=0
 ·have hzl:zs.length=0:=by
   refine Classical.byContradiction fun hc=>?_
   have:=pQ z2 (by intro h;rw[h]at hc;exact hc rfl)
   omega
  ((refine dw ?_ ?_;(focus assumption));(refine d9 ?_ ?_;focus omega);refine cf ?_)
  obtain⟨p,p',hpp⟩:=lJ (Int.gcd x y:Int)
  have hag:sg false (a:Int)=(Int.gcd x y:Int):=by
   show(a:Int)=_
   rw[<-hg,hb0,Nat.gcd_zero_right]
  refine pU fS (bQ.lit (lF ka (by omega)) (by rw[hag,hpp])) fun w6 h6=>?_
  exact bQ.mk ⟨hW.tr h6,hpp.symm⟩
 ·have hzne:zs≠[]:=by intro hc;rw[hc]at z3;simp[ci]at z3;omega
  have hzl:0 < zs.length:=List.length_pos_iff.2 hzne
  obtain⟨ys,y1,y2,y3,y4⟩:=ka.bd (k:=200) (hbd a ha)
  ((refine dw ?_ ?_;(focus assumption));(refine eB ?_ ?_;focus omega);refine co ?_)
  refine cu iz (pO y1 z1 y2 z2 (by omega) (by omega) hzne) ?_
  rintro _ w5 ⟨h5,q,r,rfl,hq,hr⟩
  rw[y3,z3]at hr
  have hcast:(a:Int) % b=((a % b:Nat):Int):=by simp
  rw[hcast]at hr
  have hlt:a % b < b:=Nat.mod_lt _ (by omega)
  refine gN ?_
  refine⟨?_,?_⟩
  ·rw[hI]
   refine⟨b,a % b,lb.ext h5,hr,?_,hb,by omega,hW.tr h5⟩
   rw[Nat.gcd_comm,<-Nat.gcd_rec,Nat.gcd_comm,hg]
  ·rw[EO hr,hdl];omega
end Go.Proofs.YtnkmbjedcjcccaaGreatDoor
