/-
  Contracts and plain lemmas. By an AI agent.
-/
import Derived.Test.YtnkmbjedcjcccaaGreatDoorRefX
import Derived.Test.YtnkmbjedcjcccaaGreatDoorStrY
set_option linter.all false
namespace Go.Proofs.YtnkmbjedcjcccaaGreatDoor
open Tryz
open Go Go.Eng Go.Proofs Go.Num Go.RowKit
set_option maxRecDepth 100000
theorem Ib{zs:List Int}{p:Nat}(h:p < zs.length)(d:Int):ci (zs.set p d)=ci zs+10 ^ p * (d - zs[p]):=by
 induction zs generalizing p with
 | nil=>simp at h
 | cons z zs ih=>
  cases p with
  | zero=>simp[ci];omega
  | succ p=>
   have h':p < zs.length:=by simpa using h
   simp only[List.set_cons_succ,ci,ih h',List.getElem_cons_succ,Int.pow_succ]
   grind
theorem kn.set{zs:List Int}(h:kn zs)(p:Nat){d:Int}(hd:0<=d/\d < 10):kn (zs.set p d):=by
 intro x hx
 rcases List.mem_or_eq_of_mem_set hx with hx | rfl
 ·exact h x hx
 ·exact hd
theorem EN(k:Nat):ci (List.replicate k 0)=0:=by
 induction k with
 | zero=>rfl
 | succ k ih=>simp[List.replicate_succ,ci,ih]
theorem PU{W:World}{g n:Nat}{zs:List Int}{i:Int}{j:Nat}{u:Int}{K:World->Prop}(h:cM W g 3 (zs.map iv))(hn:n=zs.length)(hi:i=j)(hj:j < zs.length)(hk:K (W.setCell ⟨g,j,none⟩ (iv u))):
 Ia prog 33 (.slice (some ⟨g,0,none⟩) n n) (.int .i64 i) W fun a w=>cL prog 3 a (.int .i64 u) w K:=by
 subst hi;subst hn
 have hc:=h.cell (i:=j) (v:=iv zs[j]) (by simp[hj])
 (repeat (first|simp -dsimp[go_sem,hc,h.frz j]|simp -dsimp (disch:=omega)only[gL,gI]))
 exact hk
theorem TS{W:World}{g n:Nat}{zs:List Int}{i:Int}{j:Nat}{K:Value->World->Prop}(h:cM W g 3 (zs.map iv))(hn:n=zs.length)(hi:i=j)(hj:j < zs.length)(hk:K (.int .i64 zs[j]) W):
 Ia prog 33 (.slice (some ⟨g,0,none⟩) n n) (.int .i64 i) W fun a w=>Ld prog 3 a w K:=
 H0 (h.slAt (by simp[hn])) hi hj hk
theorem Hr{W:World}{g:Nat}{zs:List Int}(h:cM W g 3 (zs.map iv))(p:Nat)(d:Int):cM (W.setCell ⟨g,p,none⟩ (iv d)) g 3 ((zs.set p d).map iv):=by
 have:=h.set p (iv d)
 rw[List.map_set];exact this
theorem RX{v:Value}{xs:List Int}{i:Int}{j:Nat}{W:World}{K:Value->Prop}(h:gA W v xs)(hi:i=j)(hj:j < xs.length)(hk:K (.int .i64 xs[j])):
 Dv prog true (Instr.indexAt 33 v (.int .i64 i)) W.drew fun a=>Dv prog false (Instr.loadAt 3 a) W.drew K:=by
 subst hi
 rcases h with ⟨rfl,hx⟩ | ⟨b,o,cap,rfl,hcap,hcells⟩
 ·have:xs=[]:=by simpa using hx
  subst this;simp at hj
 ·have hcell:=hcells j (.int .i64 xs[j]) (by simp[hj])
  simp only[List.length_map]at hcap ⊢
  (repeat (first|simp -dsimp[go_sem,hcell]|simp -dsimp (disch:=omega)only[gL,gI]))
  exact hk
theorem PV{x y:Int}{c:Bool}{W:World}{K:Value->Prop}(h1:0<=x * y)(h2:x * y<=1000)(hk:K (.int .i64 (x * y))):Dv prog true (bn .mul 3 c (.int .i64 x) (.int .i64 y)) W K:=by
 obtain⟨z,hz⟩:∃ z,z=x * y:=⟨_,rfl⟩
 rw[<-hz]at h1 h2 hk
 (repeat (first|simp -dsimp[go_sem,<-hz]|simp -dsimp (disch:=omega)only[gL,gI]));exact hk
theorem PW{x y:Int}{c:Bool}{W:World}{K:Value->Prop}(h1:0<=x+y)(h2:x+y<=1000)(hk:K (.int .i64 (x+y))):Dv prog true (bn .add 3 c (.int .i64 x) (.int .i64 y)) W K:=by
 (repeat (first|simp -dsimp[go_sem]|simp -dsimp (disch:=omega)only[gL,gI]));exact hk
theorem KU{w:World}{u v:Value}{xs ys:List Int}(hu:gA w u xs)(hv:gA w v ys)(hx:ef xs)(hy:ef ys)(hlx:xs.length<=100000)(hly:ys.length<=100000):
 Calls prog 182 #[u,v] w (bQ fun r w'=>bK w w'/\nQ w' r (ci xs * ci ys)):=by
 obtain⟨a1,cap1,rfl⟩:=hu.slice
 obtain⟨a2,cap2,rfl⟩:=hv.slice
 have hL:=HZ
 have hp:∀ i:Nat,(0:Int) < 10 ^ i:=fun i=>Int.pow_pos (by decide)
 have hy0:=ed hy.1
 have hyl:=md hy.1
 obtain⟨n,hn⟩:∃ n,n=xs.length+ys.length:=⟨_,rfl⟩
 apply Ba
 unfold uh
 ((refine dw ?_ ?_;(focus assumption));(refine dw ?_ ?_;(focus assumption));(refine cF ?_ ?_ ?_;(focus omega);(focus omega)))
 refine CP xi (by decide) (n:=n) (by rw[hn];push_cast;rfl) (by omega) (Nat.le_refl w.heap.size) ?_
 intro w1 hq g1
 have e1:=World.grownBy.ext g1
 have hb0:cM w1 w.heap.size 3 ((List.replicate n (0:Int)).map iv):=by simpa using hq.blk (by simp)
 obtain⟨I,hI⟩:∃ I:Value->World->Prop,I=(fun i W=>∃(k:Nat) (zs:List Int),k<=xs.length/\i=.int .i64 k/\zs.length=n/\kn zs/\cM W w.heap.size 3 (zs.map iv)/\bK w W/\ci zs=ci (xs.take k) * ci ys):=⟨_,rfl⟩
 obtain⟨μ,hμ⟩:∃ μ:Value->World->Nat,μ=(fun i _=>match i with | .int _ i'=>(xs.length - i').toNat | _=>0):=⟨_,rfl⟩
 refine jt.mk I μ (by rw[hI];exact⟨0,List.replicate n 0,by omega,rfl,by simp,by intro d hd;simp at hd;omega,hb0,e1,by simp[EN,ci]⟩) ?_
 intro i W hh
 rw[hI]at hh
 obtain⟨k,zs,hk,rfl,hzl,hd,hb,hW,hnum⟩:=hh
 by_cases hgo:k < xs.length
 ·((refine dw ?_ ?_;(focus assumption));(refine cy ?_ ?_;focus omega);refine co ?_)
  obtain⟨xk,hxk⟩:∃ xk,xk=xs[k]:=⟨_,rfl⟩
  have hxb:0<=xk/\xk < 10:=by rw[hxk];exact hx.1 _ (List.getElem_mem _)
  have hT:ci (xs.take (k+1)) * ci ys=ci (xs.take k) * ci ys+10 ^ k * xk * ci ys:=by
   rw[m6,<-xS hgo,<-hxk,Int.add_mul]
  have hTlt:ci (xs.take (k+1)) * ci ys < 10 ^ (k+1+ys.length):=by
   have h1:=md (hx.1.take (k+1))
   rw[List.length_take,Nat.min_eq_left (by omega)]at h1
   have h2:=ed (hx.1.take (k+1))
   rw[Int.pow_add]
   have a1:ci (xs.take (k+1)) * ci ys<=ci (xs.take (k+1)) * 10 ^ ys.length:=Int.mul_le_mul_of_nonneg_left (by omega) h2
   have a2:ci (xs.take (k+1)) * 10 ^ ys.length < 10 ^ (k+1) * 10 ^ ys.length:=Int.mul_lt_mul_of_pos_right h1 (hp _)
   omega
  obtain⟨J,hJ⟩:∃ J:Value->Value->World->Prop,J=(fun c j V=>∃(m:Nat) (c':Int) (zs:List Int),j=.int .i64 m/\c=.int .i64 c'/\0<=c'/\c'<=9/\zs.length=n/\kn zs/\cM V w.heap.size 3 (zs.map iv)/\bK w V/\
   ci zs+10 ^ (k+m) * c'=ci (xs.take k) * ci ys+10 ^ k * xk * ci (ys.take m)/\(m<=ys.length\/(m=ys.length+1/\c'=0))):=⟨_,rfl⟩
  obtain⟨ν,hν⟩:∃ ν:Value->Value->World->Nat,ν=(fun _ j _=>match j with | .int _ j'=>(ys.length+2 - j').toNat | _=>0):=⟨_,rfl⟩
  refine uN.mk J ν (by rw[hJ];exact⟨0,0,zs,rfl,rfl,by decide,by decide,hzl,hd,hb,hW,by simp[ci,hnum],.inl (by omega)⟩) ?_
  intro c j V hh
  rw[hJ]at hh
  obtain⟨m,c',zs2,rfl,rfl,hc0,hc1,hzl2,hd2,hb2,hV,hnum2,hm⟩:=hh
  by_cases hin:m < ys.length\/0 < c'
  ·have hmle:m<=ys.length:=by omega
   have hpz:k+m < zs2.length:=by omega
   have hzb:=hd2 _ (List.getElem_mem hpz)
   obtain⟨z,hz⟩:∃ z,z=zs2[k+m]:=⟨_,rfl⟩
   rw[<-hz]at hzb
   have yb:=EE hy.1 m
   have hmul:0<=xk * dg ys m:=Int.mul_nonneg hxb.1 yb.1
   have hmul2:xk * dg ys m<=9 * 9:=Int.mul_le_mul (by omega) (by omega) yb.1 (by decide)
   have hxV:=hu.ext hV
   have hyV:=hv.ext hV
   have fin:∀(nn:Int) (V':World),nn=z+c'+xk * dg ys m->bK V V'->J (.int .i64 (nn / 10)) (.int .i64 ((m:Int)+1)) (V'.setCell ⟨w.heap.size,k+m,none⟩ (iv (nn % 10)))/\
    ν (.int .i64 (nn / 10)) (.int .i64 ((m:Int)+1)) (V'.setCell ⟨w.heap.size,k+m,none⟩ (iv (nn % 10))) < ν (.int .i64 c') (.int .i64 m) V:=by
    intro nn V' hnn hVV
    rw[hJ,hν]
    have hset:ci (zs2.set (k+m) (nn % 10))+10 ^ (k+(m+1)) * (nn / 10)=ci (xs.take k) * ci ys+10 ^ k * xk * ci (ys.take (m+1)):=by
     have q1:=Ib hpz (nn % 10)
     rw[<-hz]at q1
     have q2:=Hf (10 ^ (k+m)) nn
     have q3:(10:Int) ^ (k+(m+1))=10 ^ (k+m) * 10:=by rw[<-Nat.add_assoc,Int.pow_succ]
     have q4:(10:Int) ^ (k+m) * nn=10 ^ (k+m) * z+10 ^ (k+m) * c'+10 ^ k * xk * (10 ^ m * dg ys m):=by
      rw[hnn,Int.pow_add];grind
     have q5:(10:Int) ^ (k+m) * (nn % 10 - z)=10 ^ (k+m) * (nn % 10) - 10 ^ (k+m) * z:=Int.mul_sub ..
     have q6:(10:Int) ^ k * xk * ci (ys.take (m+1))=10 ^ k * xk * ci (ys.take m)+10 ^ k * xk * (10 ^ m * dg ys m):=by rw[m6,Int.mul_add]
     rw[q1,q3,q6,q5]
     omega
    refine⟨⟨m+1,nn / 10,zs2.set (k+m) (nn % 10),by push_cast;rfl,rfl,by omega,by omega,by simp[hzl2],hd2.set _ (by omega),Hr (hb2.ext hVV) _ _,bK.stB (hV.tr hVV) (Nat.le_refl _) _,hset,?_⟩,by simp only[];omega⟩
    by_cases hml:m < ys.length
    ·left;omega
    ·right
     refine⟨by omega,?_⟩
     have hyt:ci (ys.take (m+1))=ci ys:=by rw[List.take_of_length_le (by omega)]
     rw[hyt,<-hT]at hset
     have h1:=ed (hd2.set (k+m) (d:=nn % 10) (by omega))
     have h2:=hp (k+(m+1))
     rw[show k+1+ys.length=k+(m+1) from by omega]at hTlt
     have h3:(10:Int) ^ (k+(m+1)) * (nn / 10) < 10 ^ (k+(m+1)) * 1:=by omega
     have h4:=Int.lt_of_mul_lt_mul_left h3 (Int.le_of_lt h2)
     omega
   by_cases hml:m < ys.length
   ·have hdy:dg ys m=ys[m]:=(xS hml).symm
    ((refine dw ?_ ?_;(focus assumption));(refine cy ?_ ?_;focus omega);refine aR ?_;refine aR ?_;refine aQ ?_;refine co ?_;(refine cF ?_ ?_ ?_;(focus omega);(focus omega)))
    refine TS hb2 (by omega) (by push_cast;rfl) hpz ?_
    rw[<-hz]
    ((refine cF ?_ ?_ ?_;(focus omega);(focus omega)))
    refine mE.mk fun K hK=>?_
    have g:∀(nn:Int),nn=z+c'+xk * dg ys m->K (.int .i64 nn) V.drew:=by
     intro nn hnn
     have hVV:bK V V.drew:=bK.dr (.refl _)
     refine hK _ _ ?_
     ((refine cF ?_ ?_ ?_;(focus omega);(focus omega));(refine qJ ?_ ?_ ?_;(focus omega);(focus omega)))
     refine PU (hb2.ext hVV) (by omega) (by push_cast;rfl) hpz ?_
     ((refine lX ?_ ?_ ?_ ?_;(focus omega);(focus omega);(focus omega));(refine cF ?_ ?_ ?_;(focus omega);(focus omega)))
     exact fin nn _ hnn hVV
    ((refine dw ?_ ?_;(focus assumption));(refine cy ?_ ?_;focus omega);refine co ?_)
    refine RX hxV rfl hgo ?_
    refine RX hyV rfl hml ?_
    rw[<-hxk,<-hdy]
    refine PV hmul (by omega) ?_
    refine PW (by omega) (by omega) ?_
    exact g _ rfl
   ·have hdy:dg ys m=0:=sT (by omega)
    rw[hdy,Int.mul_zero]at hmul2
    ((refine dw ?_ ?_;(focus assumption));(refine cD ?_ ?_;focus omega);refine ah ?_;refine ah ?_;(refine eB ?_ ?_;focus omega);refine aw ?_;refine co ?_;(refine cF ?_ ?_ ?_;(focus omega);(focus omega)))
    refine TS hb2 (by omega) (by push_cast;rfl) hpz ?_
    rw[<-hz]
    ((refine cF ?_ ?_ ?_;(focus omega);(focus omega)))
    refine mE.mk fun K hK=>?_
    have g:∀(nn:Int),nn=z+c'+xk * dg ys m->K (.int .i64 nn) V:=by
     intro nn hnn
     have hnn':nn=z+c':=by rw[hnn,hdy];simp
     refine hK _ _ ?_
     ((refine cF ?_ ?_ ?_;(focus omega);(focus omega));(refine qJ ?_ ?_ ?_;(focus omega);(focus omega)))
     refine PU hb2 (by omega) (by push_cast;rfl) hpz ?_
     ((refine lX ?_ ?_ ?_ ?_;(focus omega);(focus omega);(focus omega));(refine cF ?_ ?_ ?_;(focus omega);(focus omega)))
     exact fin nn _ hnn (.refl _)
    ((refine dw ?_ ?_;(focus assumption));(refine cD ?_ ?_;focus omega);refine cf ?_)
    exact g _ (by rw[hdy];simp)
  ·have hml:ys.length<=m:=by omega
   have hc00:c'=0:=by omega
   ((refine dw ?_ ?_;(focus assumption));(refine cD ?_ ?_;focus omega);refine ah ?_;refine ah ?_;(refine d9 ?_ ?_;focus omega);refine aw ?_;refine cf ?_;(refine cF ?_ ?_ ?_;(focus omega);(focus omega)))
   rw[hI,hμ]
   refine⟨⟨k+1,zs2,by omega,by push_cast;rfl,hzl2,hd2,hb2,hV,?_⟩,by simp only[];omega⟩
   have hyt:ys.take m=ys:=List.take_of_length_le hml
   rw[hc00,hyt,<-hT]at hnum2
   simpa using hnum2
 ·((refine dw ?_ ?_;(focus assumption));(refine cD ?_ ?_;focus omega);refine cf ?_)
  refine cu mO (yS (xs:=zs) (hb.slAt (by simp[hzl])) (by omega)) ?_
  rintro r _ ⟨hr,rfl,_⟩
  refine bQ.mk ⟨hW,trimL zs,hr,ef.trimL hd,?_⟩
  rw[oE,hnum,List.take_of_length_le (by omega)]
theorem eI.fresh{W:World}{v:Value}{xs:List Value}(h:eI W v xs){g:Nat}(hf:gm (g+1) v)(p:Nat)(u:Value):eI (W.setCell ⟨g,p,none⟩ u) v xs:=
 eI.set h u fun b o c n hv=>by have:=hf _ _ _ hv;show b≠g;simp at this;omega
theorem nQ.fresh{W:World}{v:Value}{n:Int}(h:nQ W v n){g:Nat}(hf:gm (g+1) v)(p:Nat)(u:Value):nQ (W.setCell ⟨g,p,none⟩ u) v n:=by
 obtain⟨xs,h1,h2,h3⟩:=h
 exact⟨xs,eI.fresh h1 hf p u,h2,h3⟩
theorem nQ.bd{w:World}{v:Value}{n:Int}(h:nQ w v n){k:Nat}(hn:n < 10 ^ k):∃ xs,gA w v xs/\ef xs/\ci xs=n/\xs.length<=k:=by
 obtain⟨xs,h1,h2,h3⟩:=h
 exact⟨xs,h1,h2,h3,h2.len (by rw[h3];exact hn)⟩
theorem nQ.unique{w:World}{v:Value}{x y:Int}(h:nQ w v x)(k:nQ w v y):x=y:=by
 obtain⟨l1,p1,p2,p3⟩:=h
 obtain⟨l2,q1,q2,q3⟩:=k
 have:=eI.unique p1 q1
 have hl:l1=l2:=(List.map_inj_right (fun a b h=>by simpa using h)).1 this
 rw[<-p3,<-q3,hl]
open Classical in
noncomputable def dV(w:World)(v:Value):Int:=if h:∃ n:Int,nQ w v n then Classical.choose h else 0
theorem EO{w:World}{v:Value}{n:Int}(h:nQ w v n):dV w v=n:=by
 have hx:∃ n:Int,nQ w v n:=⟨n,h⟩
 unfold dV
 rw[dif_pos hx]
 exact(Classical.choose_spec hx).unique h
def TT(w:World)(a b:Int)(r:Value)(w':World):Prop:=bK w w'/\∃ u v,r=.tuple #[u,v]/\nQ w' u a/\nQ w' v b
theorem KV{a D y c r:Int}(hy:0 < y)(ha:a+10 * (D % y)=c * y+r)(hr0:0<=r)(hr1:r < y):(a+10 * D) / y=10 * (D / y)+c/\(a+10 * D) % y=r:=by
 have e:=Int.mul_ediv_add_emod D y
 refine(Int.ediv_emod_unique hy).2 ⟨?_,hr0,hr1⟩
 have h1:y * (10 * (D / y)+c)=10 * (y * (D / y))+c * y:=by grind
 rw[h1];omega
theorem pO{w:World}{u v:Value}{xs ys:List Int}(hu:gA w u xs)(hv:gA w v ys)(hx:ef xs)(hy:ef ys)(hlx:xs.length<=90000)(hly:ys.length<=90000)(hne:ys≠[]):
 Calls prog 122 #[u,v] w (bQ (TT w (ci xs / ci ys) (ci xs % ci ys))):=by
 obtain⟨a1,cap1,rfl⟩:=hu.slice
 obtain⟨a2,cap2,rfl⟩:=hv.slice
 have hL:=HZ
 have hypos:=pQ hy hne
 have hylt:=md hy.1
 obtain⟨y,hyv⟩:∃ y,y=ci ys:=⟨_,rfl⟩
 rw[<-hyv]at hypos hylt ⊢
 apply ym
 unfold qP
 ((refine dw ?_ ?_;(focus assumption)))
 refine CP xi (by decide) (n:=xs.length) rfl (by omega) (Nat.le_refl w.heap.size) ?_
 intro w1 hq g1
 have e1:=World.grownBy.ext g1
 have hb0:cM w1 w.heap.size 3 ((List.replicate xs.length (0:Int)).map iv):=by simpa using hq.blk (by simp)
 ((refine dw ?_ ?_;(focus assumption));(refine tN ?_ ?_ ?_;(focus omega);(focus omega)))
 obtain⟨I,hI⟩:∃ I:Value->Value->World->Prop,I=(fun r i W=>∃(j:Nat) (qd:List Int),j<=xs.length/\i=.int .i64 ((xs.length:Int) - 1 - j)/\qd.length=j/\kn qd/\cM W w.heap.size 3 ((List.replicate (xs.length - j) (0:Int)++qd).map iv)/\bK w W/\
  ci qd=ci (xs.drop (xs.length - j)) / y/\nQ W r (ci (xs.drop (xs.length - j)) % y)/\gm (w.heap.size+1) r):=⟨_,rfl⟩
 obtain⟨μ,hμ⟩:∃ μ:Value->Value->World->Nat,μ=(fun _ i _=>match i with | .int _ i'=>(i'+1).toNat | _=>0):=⟨_,rfl⟩
 refine uN.mk I μ (by rw[hI];exact⟨0,[],by omega,by congr 1;omega,rfl,by simp[kn],by simpa using hb0,e1,by simp[ci],by simpa [ci] using nQ.nil w1,by intro a n c h;simp at h⟩) ?_
 intro r i W hh
 rw[hI]at hh
 obtain⟨j,qd,hj,rfl,hql,hqd,hb,hW,hqn,hr,hfr⟩:=hh
 have hwsz:=hW.size
 have hWlt:w.heap.size < W.heap.size:=hb.lt
 by_cases hgo:j < xs.length
 ·obtain⟨k,hk⟩:∃ k,k=xs.length - 1 - j:=⟨_,rfl⟩
  have hkl:k < xs.length:=by omega
  obtain⟨D,hD⟩:∃ D,D=ci (xs.drop (xs.length - j)):=⟨_,rfl⟩
  rw[<-hD]at hqn hr
  obtain⟨a,ha⟩:∃ a,a=xs[k]:=⟨_,rfl⟩
  have hab:0<=a/\a < 10:=by rw[ha];exact hx.1 _ (List.getElem_mem _)
  have hstep:ci (xs.drop (xs.length - (j+1)))=a+10 * D:=by
   rw[show xs.length - (j+1)=k from by omega,List.drop_eq_getElem_cons hkl,<-ha,hD,show k+1=xs.length - j from by omega]
   rfl
  have hm0:=Int.emod_nonneg D (show y≠0 by omega)
  have hm1:=Int.emod_lt_of_pos D hypos
  obtain⟨zs,z1,z2,z3,z4⟩:=hr.bd (k:=ys.length) (by omega)
  obtain⟨a3,cap3,rfl⟩:=z1.slice
  ((refine ft ?_ ?_;focus omega);refine co ?_)
  refine H0 (hu.ext hW) (j:=k) (by omega) hkl ?_
  rw[<-ha]
  refine uO xi rfl (Nat.le_refl W.heap.size) ?_
  intro v3 W3 o3 g3 _
  have e3:=World.grownBy.ext g3
  refine CQ xi (by decide) o3 (eI.ext z1 e3) (fun y hy=>by obtain⟨y,_,rfl⟩:=List.mem_map.1 hy;rfl) (by simp;omega) e3.size ?_
  intro v4 W4 o4 g4
  have e4:bK W W4:=e3.trans (World.grownBy.below g4 e3.size fun k hk=>(o3.lt k hk).1)
  have o5:gA W4 v4 (a::zs):=o4.slAt
  have hdz:kn (a::zs):=by
   intro x hx'
   rcases List.mem_cons.1 hx' with rfl | h
   ·exact hab
   ·exact z2.1 x h
  refine cu mO (yS o5 (by simp;omega)) ?_
  rintro r0 W5 ⟨hr0,rfl,hfr0⟩
  have hfr1:gm (w.heap.size+1) r0:=(hfr0 _ (gm.own o4)).mono (by omega)
  have hr0D:nQ W5 r0 (a+10 * (D % y)):=⟨_,hr0,ef.trimL hdz,by rw[oE];simp only[ci,z3]⟩
  obtain⟨J,hJ⟩:∃ J:Value->World->Prop,J=(fun r V=>∃(c:Nat) (s:Int),0<=s/\a+10 * (D % y)=c * y+s/\nQ V r s/\gm (w.heap.size+1) r/\bK w V/\cM V w.heap.size 3 ((List.replicate k (0:Int)++(c:Int)::qd).map iv)):=⟨_,rfl⟩
  have hν:∀ r V s,nQ V r s->(dV V r).toNat=s.toNat:=fun r V s h=>by rw[EO h]
  refine jt.mk J (fun r V=>(dV V r).toNat) (by rw[hJ];exact⟨0,a+10 * (D % y),by omega,by simp,hr0D,hfr1,hW.tr e4,by
   have:=hb.ext e4
   rw[show xs.length - j=k+1 from by omega,List.replicate_succ']at this
   simpa using this⟩) ?_
  intro r V hh
  rw[hJ]at hh
  obtain⟨c,s,hs0,hsum,hrs,hfrs,hV,hbV⟩:=hh
  have hc9:(c:Int)<=9:=by
   refine Int.not_lt.1 fun hc=>?_
   have:(10:Int) * y<=c * y:=Int.mul_le_mul_of_nonneg_right (by omega) (by omega)
   omega
  have hcy:(0:Int)<=c * y:=Int.mul_nonneg (by omega) (by omega)
  have hlen:(List.replicate k (0:Int)++(c:Int)::qd).length=xs.length:=by simp;omega
  have hpl:(10:Int) ^ (ys.length+1)=10 ^ ys.length * 10:=Int.pow_succ ..
  obtain⟨ss,s1,s2,s3,s4⟩:=hrs.bd (k:=ys.length+1) (by omega)
  refine fA jQ (v8 s1 (hv.ext hV) s2 hy (by omega) (by omega)) fun V1 x1=>?_
  rw[s3,<-hyv]
  have hV1:=hV.tr x1
  have hb1:=hbV.ext x1
  by_cases hge:y<=s
  ·have hc1:=tw hge
   ((refine ft ?_ ?_;focus omega);refine co ?_)
   refine cu hU (nR (eI.ext s1 x1) (hv.ext hV1) s2 hy (by omega) (by rw[s3,<-hyv];exact hge)) ?_
   rintro r2 V2 ⟨x2,hr2,hf2⟩
   rw[s3,<-hyv]at hr2
   have hb2:=hb1.ext x2
   have hf2':gm (w.heap.size+1) r2:=hf2.mono (by have:=hb1.lt;omega)
   refine TS hb2 (by omega) (j:=k) (by omega) (by omega) ?_
   have hget:(List.replicate k (0:Int)++(c:Int)::qd)[k]'(by omega)=c:=by
    rw[List.getElem_append_right (by simp)];simp
   rw[hget]
   ((refine cF ?_ ?_ ?_;(focus omega);(focus omega)))
   refine PU hb2 (by omega) (j:=k) (by omega) (by omega) ?_
   have hc9':(c:Int)+1<=9:=by
    refine Int.not_lt.1 fun hc=>?_
    have:(9:Int) * y<=c * y:=Int.mul_le_mul_of_nonneg_right (by omega) (by omega)
    omega
   have hr2':=nQ.fresh hr2 hf2' k (iv ((c:Int)+1))
   refine⟨?_,?_⟩
   ·rw[hJ]
    refine⟨c+1,s - y,by omega,?_,hr2',hf2',bK.stB (hV1.tr x2) (Nat.le_refl _) _,?_⟩
    ·push_cast;rw[Int.add_mul];omega
    ·have:=Hr hb2 k ((c:Int)+1)
     rw[List.set_append_right _ _ (by simp)]at this
     simpa using this
   ·rw[EO hr2',EO hrs]
    omega
  ·have hlt:dK s y < 0:=by rw[iU (by omega)];decide
   ((refine jB ?_ ?_;focus omega);refine cf ?_;(refine tN ?_ ?_ ?_;(focus omega);(focus omega)))
   obtain⟨d1,d2⟩:=KV (a:=a) (D:=D) (y:=y) (c:=c) (r:=s) hypos hsum hs0 (by omega)
   rw[hI,hμ]
   refine⟨⟨j+1,(c:Int)::qd,by omega,by congr 1;omega,by simp[hql],?_,?_,hV1,?_,?_,hfrs⟩,by simp only[];omega⟩
   ·intro x hx'
    rcases List.mem_cons.1 hx' with rfl | h
    ·omega
    ·exact hqd x h
   ·rw[show xs.length - (j+1)=k from by omega];exact hb1
   ·rw[hstep,d1];simp only[ci,hqn];omega
   ·rw[hstep,d2];exact hrs.ext x1
 ·have hjj:j=xs.length:=by omega
  have hd0:xs.drop (xs.length - j)=xs:=by rw[hjj,Nat.sub_self];rfl
  rw[hd0]at hqn hr
  have hb':cM W w.heap.size 3 (qd.map iv):=by
   rw[hjj,Nat.sub_self]at hb;simpa using hb
  ((refine jB ?_ ?_;focus omega);refine cf ?_)
  refine cu mO (yS (xs:=qd) (hb'.slAt (by simp;omega)) (by omega)) ?_
  rintro q W5 ⟨hq5,rfl,_⟩
  refine bQ.mk ⟨hW,q,_,rfl,⟨_,hq5,ef.trimL hqd,by rw[oE,hqn]⟩,hr⟩
end Go.Proofs.YtnkmbjedcjcccaaGreatDoor
