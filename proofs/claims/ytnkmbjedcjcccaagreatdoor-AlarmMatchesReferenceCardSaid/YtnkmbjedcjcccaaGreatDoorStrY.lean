/-
  Contracts and plain lemmas. By an AI agent.
-/
import Derived.Test.YtnkmbjedcjcccaaGreatDoorStrX
import Derived.Test.YtnkmbjedcjcccaaGreatDoorPlain
import Derived.Test.YtnkmbjedcjcccaaGreatDoorEng
import Derived.Test.YtnkmbjedcjcccaaGreatDoorNum
import Derived.Laws.BytesArg
set_option linter.all false
namespace Go.Proofs.YtnkmbjedcjcccaaGreatDoor
open Tryz
open Go Go.Eng Go.Proofs Go.Num Go.RowKit
set_option maxRecDepth 100000
def pf(b:Bool)(x:Int):Int:=if b then -x else x
def EP(w:World)(z m:Int)(r:Value)(w':World):Prop:=bK w w'/\∃ s t n,r=.agg #[.bool s,t]/\cV w' t n/\pf s n=z/\n<=m
theorem Hs{w:World}{a b:Bool}{u v:Value}{x y:Int}(hu:cV w u x)(hv:cV w v y)(hx:x < Mx)(hy:y < Mx):
 Calls prog 104 #[.agg #[.bool a,u],.agg #[.bool b,v]] w (bQ (EP w (pf a x+pf b y) (x+y))):=by
 have hx0:=hu.nonneg
 have hy0:=hv.nonneg
 obtain⟨a1,n1,cap1,rfl⟩:=hu.slice
 obtain⟨a2,n2,cap2,rfl⟩:=hv.slice
 apply rj
 unfold kY
 obtain⟨w1,hw1⟩:∃ w1,((w.alloc (Obj.cells #[.bool a,.slice a1 n1 cap1] 141)).alloc (Obj.cells #[.bool b,.slice a2 n2 cap2] 141)).alloc (Obj.cells #[.bool false,.slice none 0 0] 141)=w1:=⟨_,rfl⟩
 have he:bK w w1:=by rw[<-hw1];exact(((bK.refl w).al _).al _).al _
 have hs1:w1.heap.size=w.heap.size+3:=by rw[<-hw1];simp
 have b0:cM w1 w.heap.size 141 [.bool a,.slice a1 n1 cap1]:=by rw[<-hw1];exact((cM.al w [_,_] _).ext ((bK.refl _).al _)).ext ((bK.refl _).al _)
 have b1:cM w1 (w.heap.size+1) 141 [.bool b,.slice a2 n2 cap2]:=by
  rw[<-hw1];have:=(cM.al (w.alloc (Obj.cells #[.bool a,.slice a1 n1 cap1] 141)) [.bool b,.slice a2 n2 cap2] 141).ext ((bK.refl _).al (Obj.cells #[.bool false,.slice none 0 0] 141));simpa using this
 have b2:cM w1 (w.heap.size+1+1) 141 [.bool false,.slice none 0 0]:=by
  rw[<-hw1];have:=cM.al ((w.alloc (Obj.cells #[.bool a,.slice a1 n1 cap1] 141)).alloc (Obj.cells #[.bool b,.slice a2 n2 cap2] 141)) [.bool false,.slice none 0 0] 141;simpa using this
 have d1:∀ W,bK W W.drew:=fun W=>bK.dr (.refl W)
 have fin:∀ W,bK w1 W->∀(s:Bool) a3 n3 c3 n,cV W (.slice a3 n3 c3) n->pf s n=pf a x+pf b y->n<=x+y->
  bQ (EP w (pf a x+pf b y) (x+y)) (.returned (.agg #[.bool s,.slice a3 n3 c3]))
   ((W.setCell ⟨w.heap.size+1+1,0,none⟩ (.bool s)).setCell ⟨w.heap.size+1+1,1,none⟩ (.slice a3 n3 c3)):=by
  intro W hW s a3 n3 c3 n hn h1 h2
  have c2:=b2.ext hW
  have l:w.heap.size<=w.heap.size+1+1:=by omega
  refine bQ.mk ⟨bK.stB (bK.stB (he.trans (hW.mono he.size)) l _) l _,s,_,n,rfl,?_,h1,h2⟩
  exact(hn.setBlk c2 (by simp) 0 _).setBlk (c2.set 0 _) (by simp) 1 _
 by_cases hab:a=b
 ·subst hab
  (repeat (first|simp -dsimp[go_sem]|simp -dsimp (disch:=omega)only[gL,gI]))
  rw[hw1]
  refine cu iL (F2 (hu.ext (he.tr (d1 _))) (hv.ext (he.tr (d1 _))) hx hy) ?_
  rintro r W ⟨h1,h2,_⟩
  obtain⟨a3,n3,c3,rfl⟩:=h1.slice
  have h2':=(d1 w1).tr h2
  have c0:=b0.ext h2'
  have c2:=b2.ext h2'
  (repeat (first|simp -dsimp[go_sem,c0.cell (i:=0) rfl,c2.cell (i:=0) rfl,c2.cell (i:=1) rfl,c2.frz 0,c2.frz 1]|simp -dsimp (disch:=omega)only[gL,gI]))
  exact fin W h2' a _ _ _ _ h1 (by cases a <;> simp[pf] <;> omega) (Int.le_refl _)
 ·have hab':(a == b)=false:=by simpa using hab
  (repeat (first|simp -dsimp[go_sem,hab']|simp -dsimp (disch:=omega)only[gL,gI]))
  rw[hw1]
  refine cu fD (tv (hu.ext he) (hv.ext he) hx hy) ?_
  rintro _ W ⟨rfl,hW⟩
  have c0:=b0.ext hW
  have c1:=b1.ext hW
  have hxW:=(hu.ext he).ext (hW.tr (d1 _))
  have hyW:=(hv.ext he).ext (hW.tr (d1 _))
  by_cases hle:y<=x
  ·have hc:0<=dK x y:=by unfold dK;split <;> (try split) <;> omega
   (repeat (first|simp -dsimp[go_sem,hc,c0.cell (i:=0) rfl,c0.cell (i:=1) rfl,c1.cell (i:=0) rfl,c1.cell (i:=1) rfl]|simp -dsimp (disch:=omega)only[gL,gI]))
   refine cu gj (yM hxW hyW hx hle) ?_
   rintro r W2 ⟨h1,h2,_⟩
   obtain⟨a3,n3,c3,rfl⟩:=h1.slice
   have h2':=(hW.tr (d1 _)).tr h2
   have c0:=b0.ext h2'
   have c2:=b2.ext h2'
   (repeat (first|simp -dsimp[go_sem,c0.cell (i:=0) rfl,c2.cell (i:=0) rfl,c2.cell (i:=1) rfl,c2.frz 0,c2.frz 1]|simp -dsimp (disch:=omega)only[gL,gI]))
   exact fin W2 h2' a _ _ _ _ h1 (by cases a <;> cases b <;> simp[pf]at hab ⊢ <;> omega) (by omega)
  ·have hc:dK x y < 0:=by unfold dK;rw[if_pos (by omega)];decide
   (repeat (first|simp -dsimp[go_sem,hc,c0.cell (i:=0) rfl,c0.cell (i:=1) rfl,c1.cell (i:=0) rfl,c1.cell (i:=1) rfl]|simp -dsimp (disch:=omega)only[gL,gI]))
   refine cu gj (yM hyW hxW hy (by omega)) ?_
   rintro r W2 ⟨h1,h2,_⟩
   obtain⟨a3,n3,c3,rfl⟩:=h1.slice
   have h2':=(hW.tr (d1 _)).tr h2
   have c1:=b1.ext h2'
   have c2:=b2.ext h2'
   (repeat (first|simp -dsimp[go_sem,c1.cell (i:=0) rfl,c2.cell (i:=0) rfl,c2.cell (i:=1) rfl,c2.frz 0,c2.frz 1]|simp -dsimp (disch:=omega)only[gL,gI]))
   exact fin W2 h2' b _ _ _ _ h1 (by cases a <;> cases b <;> simp[pf]at hab ⊢ <;> omega) (by omega)
theorem Ht(z:Int)(s:Bool)(n:Int)(h:pf s n=z):jE (if s then -n else n)=jE z:=by rw[<-h];rfl
theorem KX:((cr:Nat):Int) * cr * 100000000 < Mx:=by unfold cr Mx;decide+kernel
theorem gY:1000000 < (cr:Int):=by unfold cr;decide+kernel
theorem kR:(cr:Int) * 100000000 < Mx:=by
 have h1:=KX
 have h2:=gY
 have:(cr:Int) * 100000000 * 1<=(cr:Int) * 100000000 * cr:=Int.mul_le_mul_of_nonneg_left (by omega) (by omega)
 have h3:(cr:Int) * 100000000 * cr=cr * cr * 100000000:=by grind
 omega
theorem kj(z:Int):pf (decide (z < 0)) z.natAbs=z:=by unfold pf;split <;> simp at * <;> omega
theorem lJ(z:Int):∃ a b,jE z=.tuple #[a,b]:=by unfold jE;split <;> exact⟨_,_,rfl⟩
theorem mB{z:Int}(h:z.natAbs < cr):(z.natAbs:Int) < cr:=by omega
theorem yR{w w1:World}{z m:Int}{r:Value}(hr:EP w z m r w1)(hm:m < Mx)(ht:kA w){pan:List PanicEntry->World->Prop}{K:Value->World->Prop}(hk:∀ a b W,jE z=.tuple #[a,b]->bK w W->K (.tuple #[a,b]) W):Cl prog 105 #[r] w1 pan K:=by
 obtain⟨h1,s,t,n,rfl,hn,hz,hle⟩:=hr
 refine cu lh (K1 hn (by omega) (ht.ext h1)) ?_
 rintro _ W ⟨h2,rfl⟩
 obtain⟨a,b,hab⟩:=lJ z
 rw[Ht z s n hz,hab]
 exact hk a b W hab (h1.tr h2)
theorem RY{x y:Int}{w:World}(hx:x.natAbs < cr)(hy:y.natAbs < cr)(ht:kA w):
 Calls prog 75 #[bh (Lib.itoa x),bh (Lib.itoa y)] w (bQ fun r w'=>bK w w'/\r=jE (x+y)):=by
 apply tT
 unfold oO
 refine cu dY (pS hx hy) ?_
 rintro _ w1 ⟨h1,u,v,rfl,hu,hv⟩
 obtain⟨a1,n1,cap1,rfl⟩:=hu.slice
 obtain⟨a2,n2,cap2,rfl⟩:=hv.slice
 have hM:=kR
 have hp:=gY
 have gx:=mB hx
 have gy:=mB hy
 (repeat (first|simp -dsimp[go_sem]|simp -dsimp (disch:=omega)only[gL,gI]))
 have ha:∀ o1 o2,bK w1 ((w1.alloc o1).alloc o2):=fun o1 o2=>((bK.refl w1).al _).al _
 refine cu kZ (Hs (hu.ext (ha _ _)) (hv.ext (ha _ _)) (by omega) (by omega)) ?_
 intro r W hr
 rw[kj,kj]at hr
 refine yR hr (by omega) (ht.ext (h1.tr (ha _ _))) fun a b W2 hab h2=>?_
 (repeat (first|simp -dsimp[go_sem]|simp -dsimp (disch:=omega)only[gL,gI]))
 exact bQ.mk ⟨(h1.tr (ha _ _)).tr h2,hab.symm⟩
theorem MT(b:Bool)(n:Int):pf (!b) n= - pf b n:=by cases b <;> simp[pf]
theorem NH{x y:Int}{w:World}(hx:x.natAbs < cr)(hy:y.natAbs < cr)(ht:kA w):
 Calls prog 68 #[bh (Lib.itoa x),bh (Lib.itoa y)] w (bQ fun r w'=>bK w w'/\r=jE (x - y)):=by
 apply tQ
 unfold oL
 refine cu dY (pS hx hy) ?_
 rintro _ w1 ⟨h1,u,v,rfl,hu,hv⟩
 obtain⟨a1,n1,cap1,rfl⟩:=hu.slice
 obtain⟨a2,n2,cap2,rfl⟩:=hv.slice
 have hM:=kR
 have hp:=gY
 have gx:=mB hx
 have gy:=mB hy
 obtain⟨bx,hbx⟩:∃ bx,bx=decide (x < 0):=⟨_,rfl⟩
 obtain⟨bY,hbY⟩:∃ bY,bY=decide (y < 0):=⟨_,rfl⟩
 rw[<-hbx,<-hbY]
 (repeat (first|simp -dsimp[go_sem]|simp -dsimp (disch:=omega)only[gL,gI]))
 have ha:∀ o1 o2,bK w1 ((w1.alloc o1).alloc o2):=fun o1 o2=>((bK.refl w1).al _).al _
 refine cu kZ (Hs (hu.ext (ha _ _)) (hv.ext (ha _ _)) (by omega) (by omega)) ?_
 intro r W hr
 rw[hbx,hbY,MT,kj,kj]at hr
 refine yR hr (by omega) (ht.ext (h1.tr (ha _ _))) fun a b W2 hab h2=>?_
 (repeat (first|simp -dsimp[go_sem]|simp -dsimp (disch:=omega)only[gL,gI]))
 exact bQ.mk ⟨(h1.tr (ha _ _)).tr h2,hab.symm⟩
theorem RZ{x y:Int}{w:World}(hx:x.natAbs < cr)(hy:y.natAbs < cr)(ht:kA w):
 Calls prog 106 #[bh (Lib.itoa x),bh (Lib.itoa y)] w (bQ fun r w'=>bK w w'/\r=jE (x * y)):=by
 apply tX
 unfold oP
 refine cu dY (pS hx hy) ?_
 rintro _ w1 ⟨h1,u,v,rfl,hu,hv⟩
 obtain⟨a1,n1,cap1,rfl⟩:=hu.slice
 obtain⟨a2,n2,cap2,rfl⟩:=hv.slice
 have hM:=kR
 have hMM:=KX
 have hp:=gY
 have gx:=mB hx
 have gy:=mB hy
 have hxy:(x.natAbs:Int) * y.natAbs < Mx:=by
  have h1:(x.natAbs:Int) * y.natAbs<=cr * cr:=Int.mul_le_mul (by omega) (by omega) (by omega) (by omega)
  have h2:0<=(cr:Int) * cr:=Int.mul_nonneg (by omega) (by omega)
  omega
 obtain⟨bx,hbx⟩:∃ bx,bx=decide (x < 0):=⟨_,rfl⟩
 obtain⟨bY,hbY⟩:∃ bY,bY=decide (y < 0):=⟨_,rfl⟩
 rw[<-hbx,<-hbY]
 (repeat (first|simp -dsimp[go_sem]|simp -dsimp (disch:=omega)only[gL,gI]))
 obtain⟨w2,hw2⟩:∃ w2,(w1.alloc (Obj.cells #[.bool bx,.slice a1 n1 cap1] 141)).alloc (Obj.cells #[.bool bY,.slice a2 n2 cap2] 141)=w2:=⟨_,rfl⟩
 have h12:bK w1 w2:=by rw[<-hw2];exact((bK.refl w1).al _).al _
 have b1:cM w2 w1.heap.size 141 [.bool bx,.slice a1 n1 cap1]:=by rw[<-hw2];exact(cM.al w1 [_,_] _).ext ((bK.refl _).al _)
 have b2:cM w2 (w1.heap.size+1) 141 [.bool bY,.slice a2 n2 cap2]:=by rw[<-hw2];have:=cM.al (w1.alloc (Obj.cells #[.bool bx,.slice a1 n1 cap1] 141)) [.bool bY,.slice a2 n2 cap2] 141;simpa using this
 have hd:bK w2 w2.drew:=bK.dr (.refl _)
 rw[hw2]
 refine cu qi (MG (hu.ext (h12.tr hd)) (hv.ext (h12.tr hd)) (by omega) (by omega) hxy) ?_
 rintro r W ⟨hn,hW⟩
 obtain⟨a3,n3,cap3,rfl⟩:=hn.slice
 have hW2:=hd.tr hW
 have c1:=b1.ext hW2
 have c2:=b2.ext hW2
 (repeat (first|simp -dsimp[go_sem,c1.cell (i:=0) rfl,c2.cell (i:=0) rfl]|simp -dsimp (disch:=omega)only[gL,gI]))
 have hwW:bK w W:=(h1.tr h12).tr hW2
 have hsg:EP w (x * y) (x.natAbs * y.natAbs) (.agg #[.bool (!bx == bY),.slice a3 n3 cap3]) W:=by
  refine⟨hwW,_,_,_,rfl,hn,?_,Int.le_refl _⟩
  have e1:=kj x
  have e2:=kj y
  rw[<-hbx]at e1
  rw[<-hbY]at e2
  conv=>rhs;rw[<-e1,<-e2]
  cases bx <;> cases bY <;> simp[pf,Int.neg_mul,Int.mul_neg]
 refine yR hsg hxy ht fun a b W2 hab h2=>?_
 (repeat (first|simp -dsimp[go_sem]|simp -dsimp (disch:=omega)only[gL,gI]))
 exact bQ.mk ⟨h2,hab.symm⟩
theorem MU{s:List UInt8}{w:World}(hl:s.length<=1000000):Calls prog 109 #[bh s] w (bQ fun r w'=>bK w w'/\r=.bool (cI s)):=by
 apply yj
 unfold qO
 refine cu gW (pR hl) ?_
 intro r w1 h
 exact bQ.mk h
theorem B1{n:Int}{w:World}(h0: -9223372036854775808<=n)(h1:n<=9223372036854775807)(ht:kA w):Calls prog 101 #[.int .i64 n] w (bQ fun r w'=>bK w w'/\r=bh (Lib.itoa n)):=by
 apply vw
 unfold ol
 refine cu gH (Gk h0 h1 ht) ?_
 rintro r w1 ⟨h2,h3⟩
 exact bQ.mk ⟨h3,h2⟩
theorem Ic{x y:Int}{w:World}(hx:x.natAbs < cr)(hy:y.natAbs < cr):
 Calls prog 74 #[bh (Lib.itoa x),bh (Lib.itoa y)] w (bQ fun r w'=>bK w w'/\r=.int .i64 (dK x y)):=by
 apply vu
 unfold oh
 refine cu dY (pS hx hy) ?_
 rintro _ w1 ⟨h1,u,v,rfl,hu,hv⟩
 obtain⟨a1,n1,cap1,rfl⟩:=hu.slice
 obtain⟨a2,n2,cap2,rfl⟩:=hv.slice
 have hM:=kR
 have hp:=gY
 have gx:=mB hx
 have gy:=mB hy
 have ha:∀ o1 o2,bK w1 ((w1.alloc o1).alloc o2):=fun o1 o2=>((bK.refl w1).al _).al _
 by_cases hx0:x < 0
 ·by_cases hy0:y < 0
  ·(repeat (first|simp -dsimp[go_sem,hx0,hy0]|simp -dsimp (disch:=omega)only[gL,gI]))
   refine cu fD (tv (hv.ext (ha _ _)) (hu.ext (ha _ _)) (by omega) (by omega)) ?_
   rintro _ W ⟨rfl,hW⟩
   refine bQ.mk ⟨(h1.tr (ha _ _)).tr hW,?_⟩
   congr 1
   unfold dK
   repeat' split
   all_goals first | rfl | omega
  ·(repeat (first|simp -dsimp[go_sem,hx0,hy0]|simp -dsimp (disch:=omega)only[gL,gI]))
   refine bQ.mk ⟨h1.tr (ha _ _),?_⟩
   unfold dK;rw[if_pos (by omega)]
 ·by_cases hy0:y < 0
  ·(repeat (first|simp -dsimp[go_sem,hx0,hy0]|simp -dsimp (disch:=omega)only[gL,gI]))
   refine bQ.mk ⟨h1.tr (ha _ _),?_⟩
   unfold dK;rw[if_neg (by omega),if_pos (by omega)]
  ·(repeat (first|simp -dsimp[go_sem,hx0,hy0]|simp -dsimp (disch:=omega)only[gL,gI]))
   refine cu fD (tv (hu.ext (ha _ _)) (hv.ext (ha _ _)) (by omega) (by omega)) ?_
   rintro _ W ⟨rfl,hW⟩
   refine bQ.mk ⟨(h1.tr (ha _ _)).tr hW,?_⟩
   rw[show(x.natAbs:Int)=x from by omega,show(y.natAbs:Int)=y from by omega]
theorem wo{x y Q R:Int}(hy:y≠0)(h:R+y.natAbs * pf (decide (x < 0)) Q=x)(h0:0<=R)(h1:R < y.natAbs):x / y=pf (!decide (x < 0) == decide (y < 0)) Q/\x % y=R:=by
 have hb:(0:Int) < y.natAbs:=by omega
 obtain⟨e1,e2⟩:=(Int.ediv_emod_unique hb).2 ⟨h,h0,h1⟩
 by_cases hy0:y < 0
 ·have hyn:y= -(y.natAbs:Int):=by omega
  constructor
  ·rw[hyn,Int.ediv_neg,e1,<-hyn]
   by_cases hx:x < 0 <;> simp[pf,hx,hy0]
  ·rw[hyn,Int.emod_neg,e2]
 ·have hyn:y=(y.natAbs:Int):=by omega
  constructor
  ·rw[hyn,e1,<-hyn]
   by_cases hx:x < 0 <;> simp[pf,hx,hy0]
  ·rw[hyn,e2]
theorem cV.zero_iff{w:World}{v:Value}{x:Int}(h:cV w v x):∃ a n c,v=.slice a n c/\(n=0↔x=0)/\0<=x:=by
 obtain⟨xs,h1,h2,rfl⟩:=h
 obtain⟨a,c,rfl⟩:=h1.slice
 refine⟨_,_,_,rfl,?_,num_nonneg h2.1⟩
 constructor
 ·intro h
  rw[List.eq_nil_of_length_eq_zero h];rfl
 ·intro h
  refine Classical.byContradiction fun hc=>?_
  have:=h2.pos (by intro h;subst h;simp at hc)
  omega
theorem R0{w:World}:Calls prog 112 #[] w (bQ fun r w'=>cV w' r 1/\bK w w'):=by
 apply A2
 unfold ua
 refine uO xZ rfl (Nat.le_refl w.heap.size) ?_
 intro v W ho hg _
 exact bQ.mk ⟨⟨[1],ho.slAt,⟨by simp[Dg],rfl⟩,rfl⟩,World.grownBy.ext hg⟩
theorem AF{z:Int}(h:z.natAbs < cr):jE z=.tuple #[bh (Lib.itoa z),.int .i64 0]:=if_pos h
theorem xf{x y:Int}{w:World}(hx:x.natAbs < cr)(hy:y.natAbs < cr):
 Calls prog 103 #[bh (Lib.itoa x),bh (Lib.itoa y)] w (bQ fun r w'=>bK w w'/\∃ bx bY a1 n1 c1 a2 n2 c2,r=.tuple #[.agg #[.bool bx,.slice a1 n1 c1],.agg #[.bool bY,.slice a2 n2 c2],.bool true]/\bx=decide (x < 0)/\bY=decide (y < 0)/\cV w' (.slice a1 n1 c1) x.natAbs/\cV w' (.slice a2 n2 c2) y.natAbs/\(n1=0↔x=0)/\(n2=0↔y=0)):=by
 refine(pS hx hy).mono ?_
 rintro _ w' ⟨_,rfl,h1,u,v,rfl,hu,hv⟩
 obtain⟨a1,n1,cap1,rfl,hn1,_⟩:=hu.zero_iff
 obtain⟨a2,n2,cap2,rfl,hn2,_⟩:=hv.zero_iff
 exact bQ.mk ⟨h1,_,_,a1,n1,cap1,a2,n2,cap2,rfl,rfl,rfl,hu,hv,by omega,by omega⟩
theorem B2{w:World}{u v:Value}{x y:Int}(hu:cV w u x)(hv:cV w v y)(hx:x < Mx)(hy0:0 < y)(hy:y * 10000 < Mx):
 Calls prog 110 #[u,v] w (bQ fun r w'=>bK w w'/\∃ a1 n1 c1 a2 n2 c2,r=.tuple #[.slice a1 n1 c1,.slice a2 n2 c2]/\cV w' (.slice a1 n1 c1) (x / y)/\cV w' (.slice a2 n2 c2) (x % y)/\(n2=0↔x % y=0)):=by
 refine(PA hu hv hx hy0 hy).mono ?_
 rintro _ w' ⟨_,rfl,h1,u,v,rfl,hu,hv⟩
 obtain⟨a1,n1,cap1,rfl⟩:=hu.slice
 obtain⟨a2,n2,cap2,rfl,hn2,_⟩:=hv.zero_iff
 exact bQ.mk ⟨h1,a1,n1,cap1,a2,n2,cap2,rfl,hu,hv,hn2⟩
theorem uy{w w1:World}{z m:Int}{r:Value}(hr:EP w z m r w1)(hm:m < Mx)(hz:z.natAbs < cr)(ht:kA w){pan:List PanicEntry->World->Prop}{K:Value->World->Prop}(hk:∀ W,bK w W->bK w1 W->K (.tuple #[bh (Lib.itoa z),.int .i64 0]) W):Cl prog 105 #[r] w1 pan K:=by
 obtain⟨h1,s,t,n,rfl,hn,hsz,hle⟩:=hr
 refine cu lh (K1 hn (by omega) (ht.ext h1)) ?_
 rintro _ W ⟨h2,rfl⟩
 rw[Ht z s n hsz,AF hz]
 exact hk W (h1.tr h2) h2
def TU(w:World)(x y:Int)(r:Value)(w':World):Prop:=bK w w'/\r=.tuple #[bh (Lib.itoa (x / y)),bh (Lib.itoa (x % y)),.int .i64 0]
theorem R1{x y:Int}{w:World}(hx:x.natAbs < cr)(hy:y.natAbs < cr)(hy0:y≠0)(ht:kA w):
 Calls prog 73 #[bh (Lib.itoa x),bh (Lib.itoa y)] w (bQ (TU w x y)):=by
 apply oN
 unfold lL
 refine cu dY (xf hx hy) ?_
 rintro _ w1 ⟨h1,bx,bY,a1,n1,cap1,a2,n2,cap2,rfl,hbx,hbY,hu,hv,hn1,hn2⟩
 have hM:=kR
 have hp:=gY
 have gx:=mB hx
 have gy:=mB hy
 have hn2':n2≠0:=by omega
 (repeat (first|simp -dsimp[go_sem,hn2']|simp -dsimp (disch:=omega)only[gL,gI]))
 have e1:=kj x
 rw[<-hbx]at e1
 have hgen:∀ w2,(w1.alloc (Obj.cells #[.bool bx,.slice a1 n1 cap1] 141)).alloc (Obj.cells #[.bool bY,.slice a2 n2 cap2] 141)=w2->bK w1 w2/\cM w2 w1.heap.size 141 [.bool bx,.slice a1 n1 cap1]/\cM w2 (w1.heap.size+1) 141 [.bool bY,.slice a2 n2 cap2]:=by
  intro w2 hw2
  refine⟨by rw[<-hw2];exact((bK.refl w1).al _).al _,by rw[<-hw2];exact(cM.al w1 [_,_] _).ext ((bK.refl _).al _),?_⟩
  rw[<-hw2];have:=cM.al (w1.alloc (Obj.cells #[.bool bx,.slice a1 n1 cap1] 141)) [.bool bY,.slice a2 n2 cap2] 141;simpa using this
 have hg:=hgen _ rfl
 refine cu lj (B2 (hu.ext hg.1) (hv.ext hg.1) (by omega) (by omega) (by omega)) ?_
 rintro _ w3 ⟨h3,a4,n4,c4,a5,n5,c5,rfl,hq,hm,hn5⟩
 have b1:=hg.2.1.ext h3
 have b2:=hg.2.2.ext h3
 have h13:=hg.1.tr h3
 clear hgen hg h3
 (repeat (first|simp -dsimp[go_sem]|simp -dsimp (disch:=omega)only[gL,gI]))
 have hmlt:(x.natAbs:Int) % y.natAbs < y.natAbs:=Int.emod_lt_of_pos _ (by omega)
 have hm0:0<=(x.natAbs:Int) % y.natAbs:=Int.emod_nonneg _ (by omega)
 have hdm:=Int.mul_ediv_add_emod (x.natAbs:Int) y.natAbs
 have hq0:0<=(x.natAbs:Int) / y.natAbs:=Int.ediv_nonneg (by omega) (by omega)
 have hqle:(x.natAbs:Int) / y.natAbs<=x.natAbs:=Int.ediv_le_self _ (by omega)
 refine vt.mk fun K hK=>?_
 have hww:bK w w3:=h1.tr h13
 have hK2:∀ W a6 n6 c6 a7 n7 c7 Q R,bK w3 W->cV W (.slice a6 n6 c6) Q->cV W (.slice a7 n7 c7) R->Q<=x.natAbs->R < y.natAbs->R+y.natAbs * pf bx Q=x->K (.slice a6 n6 c6) (.slice a7 n7 c7) W:=by
  intro W a6 n6 c6 a7 n7 c7 Q R hW nq nr hQ hR hx'
  refine hK _ _ W ?_
  have h0:=nr.nonneg
  have hQ0:=nq.nonneg
  obtain⟨f1,f2⟩:=wo hy0 (by rw[<-hbx];exact hx') h0 hR
  rw[<-hbx,<-hbY]at f1
  have hz1:(x / y).natAbs < cr:=by
   rw[f1];unfold pf;split <;> omega
  have hz2:(x % y).natAbs < cr:=by rw[f2];omega
  have c1:=b1.ext hW
  have c2:=b2.ext hW
  (repeat (first|simp -dsimp[go_sem,c1.cell (i:=0) rfl,c2.cell (i:=0) rfl]|simp -dsimp (disch:=omega)only[gL,gI]))
  refine uy (w:=w) (z:=x / y) (m:=x.natAbs) ⟨hww.tr hW,_,_,_,rfl,nq,f1.symm,hQ⟩ (by omega) hz1 ht fun W2 k2 k2'=>?_
  (repeat (first|simp -dsimp[go_sem]|simp -dsimp (disch:=omega)only[gL,gI]))
  refine uy (w:=w) (z:=x % y) (m:=y.natAbs) ⟨k2,_,_,_,rfl,nr.ext k2',(show pf false R=x % y from f2.symm),by omega⟩ (by omega) hz2 ht fun W3 k3 _=>?_
  (repeat (first|simp -dsimp[go_sem]|simp -dsimp (disch:=omega)only[gL,gI]))
  exact bQ.mk ⟨k3,rfl⟩
 by_cases hneg:x < 0
 ·have hbt:bx=true:=by rw[hbx];exact decide_eq_true hneg
  by_cases hr0:(x.natAbs:Int) % y.natAbs=0
  ·have hn50:n5=0:=hn5.2 hr0
   (repeat (first|simp -dsimp[go_sem,b1.cell (i:=0) rfl,hbt,hn50]|simp -dsimp (disch:=omega)only[gL,gI]))
   rw[<-hn50]
   exact hK2 w3 _ _ _ _ _ _ _ _ (.refl _) hq hm hqle hmlt (by rw[hbt];simp only[pf,if_true];rw[Int.mul_neg];omega)
  ·have hn50:n5≠0:=fun h=>hr0 (hn5.1 h)
   have hn51:0 < n5:=by omega
   have hd:bK w3 w3.drew:=bK.dr (.refl _)
   (repeat (first|simp -dsimp[go_sem,b1.cell (i:=0) rfl,hbt,hn51,b2.cell (i:=1) rfl]|simp -dsimp (disch:=omega)only[gL,gI]))
   refine cu A3 R0 ?_
   rintro r1 W1 ⟨g1,g2⟩
   have x1:=hd.tr g2
   (repeat (first|simp -dsimp[go_sem,(b2.ext x1).cell (i:=1) rfl]|simp -dsimp (disch:=omega)only[gL,gI]))
   refine cu iL (F2 (hq.ext x1) g1 (by omega) (by omega)) ?_
   rintro r2 W2 ⟨g3,g4,_⟩
   have x2:=x1.tr g4
   (repeat (first|simp -dsimp[go_sem,(b2.ext x2).cell (i:=1) rfl]|simp -dsimp (disch:=omega)only[gL,gI]))
   have hv3:cV w3 (.slice a2 n2 cap2) y.natAbs:=hv.ext h13
   refine cu gj (yM (hv3.ext x2) (hm.ext x2) (by omega) (by omega)) ?_
   rintro r3 W3 ⟨g5,g6,_⟩
   have g3':=g3.ext g6
   obtain⟨a6,n6,c6,hr2⟩:=g3'.slice
   obtain⟨a7,n7,c7,hr3⟩:=g5.slice
   rw[hr2]at g3' ⊢
   rw[hr3]at g5 ⊢
   refine hK2 W3 _ _ _ _ _ _ _ _ (x2.tr g6) g3' g5 ?_ (by omega) ?_
   ·have hy2:2<=(y.natAbs:Int):=by
     refine Classical.byContradiction fun hc=>?_
     have:(y.natAbs:Int)=1:=by omega
     rw[this]at hr0;simp at hr0
    have:2 * ((x.natAbs:Int) / y.natAbs)<=y.natAbs * (x.natAbs / y.natAbs):=Int.mul_le_mul_of_nonneg_right hy2 hq0
    omega
   ·rw[hbt];simp only[pf,if_true];rw[Int.mul_neg,Int.mul_add];omega
 ·have hbt:bx=false:=by rw[hbx];exact decide_eq_false hneg
  (repeat (first|simp -dsimp[go_sem,b1.cell (i:=0) rfl,hbt]|simp -dsimp (disch:=omega)only[gL,gI]))
  exact hK2 w3 _ _ _ _ _ _ _ _ (.refl _) hq hm hqle hmlt (by rw[hbt];simp only[pf];rw[if_neg (by decide)];omega)
theorem wp:Lib.itoa 0=[48]:=by unfold Lib.itoa;rw[if_neg (by decide)];exact jD (by decide)
theorem eI.unique{w:World}{v:Value}{xs ys:List Value}(h:eI w v xs)(k:eI w v ys):xs=ys:=by
 rcases h with ⟨rfl,rfl⟩ | ⟨b,o,cap,rfl,h2,h3⟩
 ·rcases k with ⟨_,rfl⟩ | ⟨b,o,cap,h1,_⟩
  ·rfl
  ·simp at h1
 ·rcases k with ⟨h1,_⟩ | ⟨b',o',cap',h1,k2,k3⟩
  ·simp at h1
  ·simp only[Value.slice.injEq,Option.some.injEq,Addr.mk.injEq,and_true]at h1
   obtain⟨⟨rfl,rfl⟩,hl,_⟩:=h1
   apply List.ext_getElem?
   intro i
   by_cases hi:i < xs.length
   ·have a1:=h3 i _ (List.getElem?_eq_getElem hi)
    have a2:=k3 i _ (List.getElem?_eq_getElem (by omega:i < ys.length))
    rw[a1]at a2
    rw[List.getElem?_eq_getElem hi,List.getElem?_eq_getElem (by omega:i < ys.length)]
    exact a2
   ·rw[List.getElem?_eq_none (by omega),List.getElem?_eq_none (by omega)]
theorem cV.unique{w:World}{v:Value}{x y:Int}(h:cV w v x)(k:cV w v y):x=y:=by
 obtain⟨xs,h1,_,rfl⟩:=h
 obtain⟨ys,k1,_,rfl⟩:=k
 have:=eI.unique h1 k1
 have:xs=ys:=by
  have hi:Function.Injective iv:=fun a b h=>by simpa using h
  exact(List.map_inj_right (fun a b h=>hi h)).1 this
 rw[this]
open Classical in
noncomputable def numV(w:World)(v:Value):Int:=if h:∃ x,cV w v x then Classical.choose h else 0
theorem cV.numV{w:World}{v:Value}{x:Int}(h:cV w v x):numV w v=x:=by
 have hx:∃ x,cV w v x:=⟨x,h⟩
 unfold Go.Proofs.YtnkmbjedcjcccaaGreatDoor.numV
 rw[dif_pos hx]
 exact(Classical.choose_spec hx).unique h
theorem R2{x y:Int}{w:World}(hx:x.natAbs < cr)(hy:y.natAbs < cr)(ht:kA w):
 Calls prog 107 #[bh (Lib.itoa x),bh (Lib.itoa y)] w (bQ fun r w'=>bK w w'/\r=jE (Int.gcd x y)):=by
 apply A1
 unfold tY
 refine cu dY (xf hx hy) ?_
 rintro _ w1 ⟨h1,bx,bY,a1,n1,cap1,a2,n2,cap2,rfl,hbx,hbY,hu,hv,hn1,hn2⟩
 have hM:=kR
 have hp:=gY
 have gx:=mB hx
 have gy:=mB hy
 (repeat (first|simp -dsimp[go_sem]|simp -dsimp (disch:=omega)only[gL,gI]))
 have h12:∀ o1 o2,bK w1 ((w1.alloc o1).alloc o2).drew:=fun o1 o2=>bK.dr (((bK.refl w1).al _).al _)
 have hI:∃ I:Value->Value->World->Prop,I=fun k l W=>∃ a b:Nat,cV W k a/\cV W l b/\Nat.gcd a b=Int.gcd x y/\a < cr/\b < cr/\bK w W:=⟨_,rfl⟩
 obtain⟨I,hI⟩:=hI
 refine uN.mk I (fun _ l W=>(numV W l).toNat) (by rw[hI];exact⟨x.natAbs,y.natAbs,hu.ext (h12 _ _),hv.ext (h12 _ _),rfl,hx,hy,h1.tr (h12 _ _)⟩) ?_
 intro k l W hh
 rw[hI]at hh
 obtain⟨a,b,ka,lb,hg,ha,hb,hW⟩:=hh
 have hnum:=lb.numV
 obtain⟨a3,n3,c3,rfl⟩:=ka.slice
 obtain⟨a4,n4,c4,rfl,hn4,_⟩:=lb.zero_iff
 by_cases hb0:b=0
 ·have hn40:n4=0:=by omega
  (repeat (first|simp -dsimp[go_sem,hn40]|simp -dsimp (disch:=omega)only[gL,gI]))
  refine yR (w:=w) (z:=Int.gcd x y) (m:=a) ⟨hW,_,_,_,rfl,ka,?_,Int.le_refl _⟩ (by omega) ht fun r1 r2 W2 hab k2=>?_
  ·show(a:Int)=_
   rw[<-hg,hb0,Nat.gcd_zero_right]
  ·(repeat (first|simp -dsimp[go_sem]|simp -dsimp (disch:=omega)only[gL,gI]))
   exact bQ.mk ⟨k2,hab.symm⟩
 ·have hn40:0 < n4:=by omega
  (repeat (first|simp -dsimp[go_sem]|simp -dsimp (disch:=omega)only[gL,gI]))
  refine cu lj (B2 ka lb (by omega) (by omega) (by omega)) ?_
  rintro _ W2 ⟨k2,a5,n5,c5,a6,n6,c6,rfl,hq,hm,hn6⟩
  have hcast:(a:Int) % b=((a % b:Nat):Int):=by simp
  rw[hcast]at hm
  have hlt:a % b < b:=Nat.mod_lt _ (by omega)
  have hnum2:=hm.numV
  (repeat (first|simp -dsimp[go_sem]|simp -dsimp (disch:=omega)only[gL,gI]))
  rw[hnum,hnum2]
  refine⟨?_,by omega⟩
  rw[hI]
  refine⟨b,a % b,lb.ext k2,hm,?_,hb,by omega,hW.tr k2⟩
  rw[<-hg,Nat.gcd_comm a b,Nat.gcd_rec b a,Nat.gcd_comm]
section
variable{s t:List UInt8}{w:World}(hs:s.length<=1000000)(ht:t.length<=1000000)(h:(cI s && cI t)=false)
include hs ht h
theorem Ie:Calls prog 75 #[bh s,bh t] w (bQ fun r w'=>bK w w'/\r=.tuple #[bh [],.int .i64 30]):=by
 apply tT
 unfold oO
 refine cu dY (qE hs ht h) ?_
 rintro _ w1 ⟨h1,rfl⟩
 (repeat (first|simp -dsimp[go_sem]|simp -dsimp (disch:=omega)only[gL,gI]))
 exact bQ.mk ⟨(h1.al _).al _,rfl⟩
theorem Ig:Calls prog 68 #[bh s,bh t] w (bQ fun r w'=>bK w w'/\r=.tuple #[bh [],.int .i64 30]):=by
 apply tQ
 unfold oL
 refine cu dY (qE hs ht h) ?_
 rintro _ w1 ⟨h1,rfl⟩
 (repeat (first|simp -dsimp[go_sem]|simp -dsimp (disch:=omega)only[gL,gI]))
 exact bQ.mk ⟨(h1.al _).al _,rfl⟩
theorem Ih:Calls prog 106 #[bh s,bh t] w (bQ fun r w'=>bK w w'/\r=.tuple #[bh [],.int .i64 30]):=by
 apply tX
 unfold oP
 refine cu dY (qE hs ht h) ?_
 rintro _ w1 ⟨h1,rfl⟩
 (repeat (first|simp -dsimp[go_sem]|simp -dsimp (disch:=omega)only[gL,gI]))
 exact bQ.mk ⟨(h1.al _).al _,rfl⟩
theorem Ii:Calls prog 73 #[bh s,bh t] w (bQ fun r w'=>bK w w'/\r=.tuple #[bh [],bh [],.int .i64 30]):=by
 apply oN
 unfold lL
 refine cu dY (qE hs ht h) ?_
 rintro _ w1 ⟨h1,rfl⟩
 (repeat (first|simp -dsimp[go_sem]|simp -dsimp (disch:=omega)only[gL,gI]))
 exact bQ.mk ⟨(h1.al _).al _,rfl⟩
end
theorem Gh{x:Int}{w:World}(hx:x.natAbs < cr):Calls prog 73 #[bh (Lib.itoa x),bh (Lib.itoa 0)] w (bQ fun r w'=>bK w w'/\r=.tuple #[bh [],bh [],.int .i64 30]):=by
 apply oN
 unfold lL
 have hp:=gY
 refine cu dY (xf (w:=w) hx (y:=0) (by simp;omega)) ?_
 rintro _ w1 ⟨h1,bx,bY,a1,n1,cap1,a2,n2,cap2,rfl,hbx,hbY,hu,hv,hn1,hn2⟩
 have hn20:n2=0:=hn2.2 rfl
 (repeat (first|simp -dsimp[go_sem,hn20]|simp -dsimp (disch:=omega)only[gL,gI]))
 exact bQ.mk ⟨(h1.al _).al _,rfl⟩
def u5(s:List UInt8):Value:=if cI s then(match Lib.atoiAll s with | .ok v=>.tuple #[.int .i64 v,.int .i64 0] | _=>.tuple #[.int .i64 0,.int .i64 30]) else .tuple #[.int .i64 0,.int .i64 30]
theorem xV{z:Int}(hz:z.natAbs < cr):u5 (Lib.itoa z)=if -9223372036854775808<=z/\z<=9223372036854775807 then .tuple #[.int .i64 z,.int .i64 0] else .tuple #[.int .i64 0,.int .i64 30]:=by
 unfold u5
 rw[lH,decide_eq_true hz,if_pos rfl,kP]
 by_cases hh: -9223372036854775808<=z/\z<=9223372036854775807
 ·rw[if_pos hh,if_pos hh]
 ·rw[if_neg hh,if_neg hh]
def ER(l:List UInt8):Bool:=!l.isEmpty && l.all (fun b=>decide (lG b)) && (l.length == 1 || l.head? !=some 48)
theorem Hu{l:List UInt8}(h:ER l=true):Lib.decDigits (dv l)=l:=by
 unfold ER at h
 simp only[Bool.and_eq_true,Bool.or_eq_true,List.all_eq_true,decide_eq_true_eq,beq_iff_eq,bne_iff_ne,Bool.not_eq_true',List.isEmpty_eq_false_iff]at h
 exact Ap h.1.2 h.1.1 h.2
theorem qC{l:List UInt8}(z:Int)(h:ER l=true)(hz:z=(dv l:Int)):Lib.itoa z=l:=by
 subst hz
 unfold Lib.itoa
 rw[if_neg (by omega),Int.toNat_natCast,Hu h]
theorem MV{l:List UInt8}(z:Int)(h:ER l=true)(hz:z= -(dv l:Int))(h0:z < 0):Lib.itoa z=45::l:=by
 unfold Lib.itoa
 rw[if_pos h0,show z.natAbs=dv l from by omega,Hu h]
theorem AG{z:Int}(h:z.natAbs < 1000000):z.natAbs < cr:=by have:=gY;omega
theorem l1:Lib.itoa 1=[49]:=qC _ (by decide) (by decide)
theorem l2:Lib.itoa 2=[50]:=qC _ (by decide) (by decide)
theorem Vu:Lib.itoa 12=[49,50]:=qC _ (by decide) (by decide)
theorem bQ.lit{w:World}{f:FuncId}{args:Array Value}{u v:Value}(h:Calls prog f args w (bQ fun r w'=>bK w w'/\r=u))(e:u=v):Calls prog f args w (bQ fun r w'=>bK w w'/\r=v):=e ▸ h
theorem yy{l:List UInt8}{b:Bool}{w:World}(hl:l.length<=1000000)(h:cI l=b):Calls prog 109 #[bh l] w (bQ fun r w'=>bK w w'/\r=.bool b):=by
 have:=MU (w:=w) hl
 rw[h]at this
 exact this
def Sz(k:Nat)(z:Int):Prop:=z.natAbs < 10 ^ k
theorem Sz.mono{j k:Nat}{z:Int}(h:Sz j z)(hk:j<=k):Sz k z:=Nat.lt_of_lt_of_le h (Nat.pow_le_pow_right (by decide) hk)
theorem Sz.add{k:Nat}{x y:Int}(hx:Sz k x)(hy:Sz k y):Sz (k+1) (x+y):=by
 unfold Sz at *
 rw[Nat.pow_succ];omega
theorem Sz.sub{k:Nat}{x y:Int}(hx:Sz k x)(hy:Sz k y):Sz (k+1) (x - y):=by
 unfold Sz at *
 rw[Nat.pow_succ];omega
theorem Sz.mul{j k:Nat}{x y:Int}(hx:Sz j x)(hy:Sz k y):Sz (j+k) (x * y):=by
 unfold Sz at *
 rw[Int.natAbs_mul,Nat.pow_add]
 exact Nat.mul_lt_mul'' hx hy
theorem Sz.max{k:Nat}{z:Int}(h:Sz k z)(hk:k<=200):z.natAbs < cr:=by
 have:=h.mono hk
 unfold cr;exact this
theorem ES{z:Int}(h:z.natAbs < cr):jE z=.tuple #[bh (Lib.itoa z),.int .i64 0]:=AF h
section
variable{x y s:Int}{w:World}(hx:x.natAbs < cr)(hy:y.natAbs < cr)(hs:s.natAbs < cr)(ht:kA w)
include hx hy hs ht
theorem R4(e:x - y=s):Calls prog 68 #[bh (Lib.itoa x),bh (Lib.itoa y)] w (bQ fun r w'=>bK w w'/\r=.tuple #[bh (Lib.itoa s),.int .i64 0]):=
 bQ.lit (NH hx hy ht) (by rw[e,ES hs])
theorem R5(e:(Int.gcd x y:Int)=s):Calls prog 107 #[bh (Lib.itoa x),bh (Lib.itoa y)] w (bQ fun r w'=>bK w w'/\r=.tuple #[bh (Lib.itoa s),.int .i64 0]):=
 bQ.lit (R2 hx hy ht) (by rw[e,ES hs])
end
theorem Hv{x y q r:Int}{w:World}(hx:x.natAbs < cr)(hy:y.natAbs < cr)(hy0:y≠0)(ht:kA w)(e1:x / y=q)(e2:x % y=r):
 Calls prog 73 #[bh (Lib.itoa x),bh (Lib.itoa y)] w (bQ fun v w'=>bK w w'/\v=.tuple #[bh (Lib.itoa q),bh (Lib.itoa r),.int .i64 0]):=by
 refine(R1 hx hy hy0 ht).mono ?_
 rintro _ w' ⟨v,rfl,h1,h2⟩
 exact bQ.mk ⟨h1,by rw[h2,e1,e2]⟩
theorem xh{x y c:Int}{w:World}(hx:x.natAbs < cr)(hy:y.natAbs < cr)(e:dK x y=c):
 Calls prog 74 #[bh (Lib.itoa x),bh (Lib.itoa y)] w (bQ fun r w'=>bK w w'/\r=.int .i64 c):=
 bQ.lit (Ic hx hy) (by rw[e])
theorem iU{x y:Int}(h:x < y):dK x y= -1:=by unfold dK;rw[if_pos h]
theorem kS{x y:Int}(h:y < x):dK x y=1:=by unfold dK;rw[if_neg (by omega),if_pos (by omega)]
theorem qD{x y:Int}(h:x=y):dK x y=0:=by unfold dK;rw[if_neg (by omega),if_neg (by omega)]
theorem tw{x y:Int}(h:y<=x):0<=dK x y:=by
 rcases Int.lt_or_eq_of_le h with h | h
 ·rw[kS h];decide
 ·rw[qD h.symm];decide
theorem De{x y:Int}(h:x<=y):dK x y<=0:=by
 rcases Int.lt_or_eq_of_le h with h | h
 ·rw[iU h];decide
 ·rw[qD h];decide
theorem PX{y:Int}(h:y=0):(Lib.itoa y == [48])=true:=by rw[h,wp];rfl
theorem Bp{y:Int}(h:y≠0):(Lib.itoa y == [48])=false:=by
 rw[beq_eq_false_iff_ne,<-wp]
 exact fun hc=>h (js hc)
theorem cv{z:Int}(h:z.natAbs < cr):(Lib.itoa z).length<=1000000:=by have:=sZ h;omega
theorem gZ{z:Int}(h:z.natAbs < cr):cI (Lib.itoa z)=true:=by rw[lH];exact decide_eq_true h
theorem m0:(0:Int).natAbs < cr:=AG (by decide)
theorem m1:(1:Int).natAbs < cr:=AG (by decide)
theorem xi:Sli prog 33 3 (.int .i64 0) 8:=⟨underlying33,⟨Tryz.t3,by kernel_rfl,by kernel_rfl,by kernel_rfl,by kernel_rfl⟩,rfl⟩
theorem R6:Sli prog 171 5 (.int .u8 0) 1:=⟨underlying171,⟨Tryz.t5,by kernel_rfl,by kernel_rfl,by kernel_rfl,by kernel_rfl⟩,rfl⟩
abbrev bv(b:UInt8):Value:=.int .u8 b.toNat
theorem wu8{x:Int}(h1:0<=x)(h2:x < 256):IntKind.u8.wrap x=x:=by rw[IntKind.wrap_u8];omega
theorem PY{w:World}{v:Value}{l:List UInt8}(h:eI w v (l.map bv)):(convert 171 9 v).run prog w=.ok (bh l) w:=by
 rcases h with ⟨rfl,hx⟩ | ⟨b,o,cap,rfl,hc,hcells⟩
 ·have:l=[]:=by simpa using hx
  subst this
  exact run_convert_bytes_nil w _ _ underlying171 underlying5 _ _ _ underlying9
 ·have:=run_convert_bytes_arg (P:=prog) w 171 5 underlying171 underlying5 b o (l.map bv).length cap (l.map fun x=>(x.toNat:Int)) (by simp) (fun i hi=>by
   simp at hi
   rw[hcells i (bv l[i]) (by simp[hi])]
   simp[List.getD,hi]) 9 underlying9
  rw[this]
  congr 2
  show(⟨_⟩:ByteArray)=_
  congr 2
  rw[List.map_map]
  conv=>rhs;rw[<-List.map_id l]
  apply List.map_congr_left
  intro x _
  simp
theorem yS{w:World}{v:Value}{xs:List Int}(h:gA w v xs)(hl:xs.length<=1000000):
 Calls prog 161 #[v] w (bQ fun u w'=>gA w' u (trimL xs)/\w'=w/\∀ B,gm B v->gm B u):=by
 apply CY
 unfold vJ
 refine jt.mk (fun a W=>W=w/\(∀ B,gm B v->gm B a)/\∃ ys:List Int,gA w a ys/\trimL ys=trimL xs/\ys.length<=1000000) (fun a _=>match a with | .slice _ n _=>n | _=>0) ⟨rfl,fun _ h=>h,xs,h,rfl,hl⟩ ?_
 rintro a W ⟨rfl,hf,ys,hy,ht,hly⟩
 rcases hy with ⟨rfl,hx⟩ | ⟨b,o,cap,rfl,hc,hcells⟩
 ·have:ys=[]:=by simpa using hx
  subst this
  (repeat (first|simp -dsimp[go_sem]|simp -dsimp (disch:=omega)only[gL,gI]))
  exact bQ.mk ⟨.inl ⟨rfl,by rw[<-ht];rfl⟩,rfl,hf⟩
 ·simp only[List.length_map]at hc ⊢
  rcases List.eq_nil_or_concat ys with rfl | ⟨zs,d,rfl⟩
  ·(repeat (first|simp -dsimp[go_sem]|simp -dsimp (disch:=omega)only[gL,gI]))
   exact bQ.mk ⟨.inr ⟨b,o,cap,by rw[<-ht];rfl,by rw[<-ht];simp[trimL],by rw[<-ht];intro i x hx;simp[trimL]at hx⟩,rfl,hf⟩
  ·simp only[List.concat_eq_append]at *
   have hcell:=hcells zs.length (iv d) (by simp)
   simp only[List.length_append,List.length_cons,List.length_nil]at hc hly ⊢
   by_cases hd:d=0
   ·subst hd
    (repeat (first|simp -dsimp[go_sem,hcell]|simp -dsimp (disch:=omega)only[gL,gI]))
    refine⟨fun B hB a n c hv=>hf B hB a (zs.length+1) c (by simp at hv ⊢;exact⟨hv.1,hv.2.2⟩),zs,.inr ⟨b,o,cap,by simp,by simp;omega,fun i x hx=>hcells i x ?_⟩,by rw[<-ht,mz],by omega⟩
    rw[List.map_append,List.getElem?_append_left (List.getElem?_eq_some_iff.1 hx).1];exact hx
   ·(repeat (first|simp -dsimp[go_sem,hcell,hd]|simp -dsimp (disch:=omega)only[gL,gI]))
    rw[uW hd]at ht
    exact bQ.mk ⟨.inr ⟨b,o,cap,by rw[<-ht];simp,by rw[<-ht];simp;omega,by rw[<-ht];exact hcells⟩,rfl,by simpa using hf⟩
theorem PZ:Lib.itoa 0=[48]:=by unfold Lib.itoa;rw[if_neg (by decide)];exact jD (by decide)
theorem Ij(xs:List Int):(trimL xs).length<=xs.length:=by
 induction xs with
 | nil=>simp[trimL]
 | cons d xs ih=>
  simp only[trimL]
  split
  ·simp
  ·simp;exact ih
def kn(xs:List Int):Prop:=∀ d∈xs,0<=d/\d < 10
def ef(xs:List Int):Prop:=kn xs/\trimL xs=xs
def ci:List Int->Int
 | []=>0
 | d::ds=>d+10 * ci ds
def MW(d:Int):UInt8:=UInt8.ofNat (48+d.toNat)
def AJ(xs:List Int):List UInt8:=xs.reverse.map MW
theorem kn.cons{d:Int}{xs:List Int}(h:kn (d::xs)):kn xs:=fun e he=>h e (List.mem_cons_of_mem _ he)
theorem ef.trimL{xs:List Int}(h:kn xs):ef (trimL xs):=⟨fun d hd=>h d (BV hd),xT xs⟩
theorem ed{xs:List Int}(h:kn xs):0<=ci xs:=by
 induction xs with
 | nil=>exact Int.le_refl _
 | cons d xs ih=>
  have:=ih h.cons
  have:=h d (List.mem_cons_self ..)
  simp only[ci];omega
theorem md{xs:List Int}(h:kn xs):ci xs < 10 ^ xs.length:=by
 induction xs with
 | nil=>decide
 | cons d xs ih=>
  have:=ih h.cons
  have:=h d (List.mem_cons_self ..)
  simp only[ci,List.length_cons]
  rw[Int.pow_succ];omega
theorem oE(xs:List Int):ci (trimL xs)=ci xs:=by
 induction xs with
 | nil=>rfl
 | cons d xs ih=>
  simp only[trimL]
  split
  ·next h=>rw[h.2]at ih;rw[h.1];simp only[ci]at ih ⊢;omega
  ·simp only[ci,ih]
theorem pP{d:Int}(h:0<=d/\d < 10):(MW d).toNat=48+d.toNat:=jp (by omega)
theorem ET(d:Int)(xs:List Int):AJ (d::xs)=AJ xs++[MW d]:=by simp[AJ]
theorem u6(xs:List Int):(AJ xs).length=xs.length:=by simp[AJ]
theorem MX{xs:List Int}(h:kn xs):∀ b∈AJ xs,lG b:=by
 intro b hb
 simp only[AJ,List.mem_map,List.mem_reverse]at hb
 obtain⟨d,hd,rfl⟩:=hb
 have:=h d hd
 unfold lG
 rw[pP this];omega
theorem P0{xs:List Int}(h:kn xs):(dv (AJ xs):Int)=ci xs:=by
 induction xs with
 | nil=>rfl
 | cons d xs ih=>
  have h1:=h d (List.mem_cons_self ..)
  rw[ET,oC,pP h1]
  have:=ih h.cons
  simp only[ci]
  omega
theorem EU{xs:List Int}(h:ef xs)(hne:xs≠[]):(AJ xs).head?≠some 48:=by
 rcases List.eq_nil_or_concat xs with rfl | ⟨zs,d,rfl⟩
 ·exact absurd rfl hne
 ·simp only[List.concat_eq_append]at *
  have hd:0<=d/\d < 10:=h.1 d (by simp)
  have h0:d≠0:=by
   rintro rfl
   have h2:=h.2
   rw[mz]at h2
   have h3:=congrArg List.length h2
   have h4:(trimL zs).length<=zs.length:=Ij zs
   simp at h3;omega
  simp only[AJ,List.reverse_append,List.reverse_cons,List.reverse_nil,List.nil_append,List.cons_append,List.map_cons,List.head?_cons]
  intro hc
  have:=congrArg (fun o:Option UInt8=>(o.getD 0).toNat) hc
  simp[pP hd]at this
  omega
theorem Dh{xs:List Int}(h:ef xs)(hne:xs≠[]):Lib.decDigits (ci xs).toNat=AJ xs:=by
 have h1:=P0 h.1
 rw[<-h1,Int.toNat_natCast]
 refine Ap (MX h.1) ?_ (.inr (EU h hne))
 intro hc
 have:=congrArg List.length hc
 rw[u6]at this
 exact hne (List.eq_nil_of_length_eq_zero (by simpa using this))
theorem pQ{xs:List Int}(h:ef xs)(hne:xs≠[]):0 < ci xs:=by
 have h0:=ed h.1
 refine Classical.byContradiction fun hc=>?_
 have h1:=Dh h hne
 rw[show ci xs=0 from by omega]at h1
 have h2:Lib.decDigits (0:Int).toNat=[48]:=jD (by decide)
 rw[h2]at h1
 exact EU h hne (by rw[<-h1];rfl)
def sg(b:Bool)(x:Int):Int:=if b then -x else x
theorem KY{xs:List Int}(h:ef xs)(b:Bool)(hne:xs≠[]):(if b then [45] else [])++AJ xs=Lib.itoa (sg b (ci xs)):=by
 have hp:=pQ h hne
 cases b with
 | true=>
  show [45]++AJ xs=Lib.itoa (-ci xs)
  rw[<-Dh h hne]
  unfold Lib.itoa
  rw[if_pos (by omega),show(-ci xs).natAbs=(ci xs).toNat from by omega]
  rfl
 | false=>
  show []++AJ xs=Lib.itoa (ci xs)
  rw[<-Dh h hne]
  unfold Lib.itoa
  rw[if_neg (by omega)]
  rfl
theorem tz{w:World}{v:Value}{xs:List Int}{neg:Bool}(h:gA w v xs)(hn:ef xs)(hl:xs.length<=1000000):
 Calls prog 126 #[.bool neg,v] w (bQ fun r w'=>bK w w'/\r=.tuple #[bh (Lib.itoa (sg neg (ci xs))),.bool (decide (xs.length<=200))]):=by
 apply CV
 unfold vE
 rcases List.eq_nil_or_concat xs with rfl | ⟨zs,d0,hxs⟩
 ·obtain⟨a,c,rfl⟩:=h.slice
  (repeat (first|simp -dsimp[go_sem]|simp -dsimp (disch:=omega)only[gL,gI]))
  refine bQ.mk ⟨.refl _,?_⟩
  have:sg neg (ci [])=0:=by cases neg <;> rfl
  rw[this,PZ]
 ·have hne:xs≠[]:=by rw[hxs];simp
  have hpos:0 < xs.length:=List.length_pos_iff.2 hne
  rcases h with ⟨rfl,hx⟩ | ⟨b,o,cap,rfl,hc,hcells⟩
  ·exact absurd (by simpa using hx) hne
  ·rw[List.length_map]at hc ⊢
   (repeat (first|simp -dsimp[go_sem]|simp -dsimp (disch:=omega)only[gL,gI]))
   refine mE.mk fun K hK=>?_
   obtain⟨pre,hpre⟩:∃ pre:List UInt8,pre=if neg then [45] else []:=⟨_,rfl⟩
   have hpl:pre.length<=1:=by rw[hpre];split <;> simp
   have hstart:∀ o1 W,gz W w.heap.size 5 o1 (pre.map bv)->bK w W->K o1 W:=by
    intro o1 W ho hW
    refine hK _ _ ?_
    (repeat (first|simp -dsimp[go_sem]|simp -dsimp (disch:=omega)only[gL,gI]))
    obtain⟨I,hI⟩:∃ I:Value->Value->World->Prop,I=(fun o i W=>∃(j:Nat),j<=xs.length/\i=.int .i64 ((xs.length:Int) - 1 - j)/\gz W w.heap.size 5 o ((pre++(AJ xs).take j).map bv)/\bK w W):=⟨_,rfl⟩
    obtain⟨μ,hμ⟩:∃ μ:Value->Value->World->Nat,μ=(fun _ i _=>match i with | .int _ i'=>(i'+1).toNat | _=>0):=⟨_,rfl⟩
    refine uN.mk I μ (by rw[hI];exact⟨0,by omega,by congr 1;omega,by simpa using ho,hW⟩) ?_
    intro o2 i W2 hh
    rw[hI]at hh
    obtain⟨j,hj,rfl,ho2,hW2⟩:=hh
    have htl:=u6 xs
    by_cases hjj:j=xs.length
    ·have hcv:=PY ho2.slAt
     rw[hjj,List.take_of_length_le (by omega),hpre,KY hn neg hne]at hcv
     (repeat (first|simp -dsimp[go_sem,hcv]|simp -dsimp (disch:=omega)only[gL,gI]))
     refine bQ.mk ⟨hW2,?_⟩
     congr 3
     simp;omega
    ·have hcell:w.cell? ⟨b,o+(xs.length - 1 - j),none⟩=some (iv (xs[xs.length - 1 - j]'(by omega))):=hcells (xs.length - 1 - j) _ (by simp)
     have hcell2:=hW2.cell' hcell
     obtain⟨d,hd⟩:∃ d,d=xs[xs.length - 1 - j]'(by omega):=⟨_,rfl⟩
     rw[<-hd]at hcell2
     have hdr:0<=d/\d < 10:=hn.1 d (by rw[hd];exact List.getElem_mem _)
     have hnat:((xs.length:Int) - 1 - j).toNat=xs.length - 1 - j:=by omega
     have hw8:=wu8 (x:=48+d) (by omega) (by omega)
     (repeat (first|simp -dsimp[go_sem,hcell2,hnat,hw8]|simp -dsimp (disch:=omega)only[gL,gI]))
     have hsz:=hW2.size
     refine kH R6 (by decide) ho2 rfl rfl (by simp;omega) hsz fun v' W' ho' hb' _=>?_
     (repeat (first|simp -dsimp[go_sem]|simp -dsimp (disch:=omega)only[gL,gI]))
     have hstep:(AJ xs).take (j+1)=(AJ xs).take j++[MW d]:=by
      rw[List.take_add_one]
      congr 1
      have:(AJ xs)[j]?=some (MW d):=by
       unfold AJ
       rw[List.getElem?_map,List.getElem?_reverse (by omega),List.getElem?_eq_getElem (by omega),<-hd]
       rfl
      rw[this];rfl
     rw[hI,hμ]
     refine⟨⟨j+1,by omega,by congr 1;omega,?_,hW2.trans hb'⟩,?_⟩
     ·rw[hstep,<-List.append_assoc,List.map_append]
      have:[bv (MW d)]=[Value.int .u8 (48+d)]:=by
       simp only[bv,pP hdr]
       congr 2;omega
      simpa [this] using ho'
     ·simp only[];omega
   cases neg with
   | true=>
    (repeat (first|simp -dsimp[go_sem]|simp -dsimp (disch:=omega)only[gL,gI]))
    refine kH R6 (by decide) (gz.nil w w.heap.size _) rfl rfl (by simp) (Nat.le_refl _) fun v' W' ho' hb' _=>?_
    (repeat (first|simp -dsimp[go_sem]|simp -dsimp (disch:=omega)only[gL,gI]))
    refine hstart _ _ ?_ hb'
    rw[hpre];exact ho'
   | false=>
    (repeat (first|simp -dsimp[go_sem]|simp -dsimp (disch:=omega)only[gL,gI]))
    refine hstart _ _ ?_ (.refl _)
    rw[hpre];exact gz.nil _ _ _
theorem B3(b:Bool)(x:Int):(sg b x).natAbs=x.natAbs:=by cases b <;> simp[sg]
end Go.Proofs.YtnkmbjedcjcccaaGreatDoor
