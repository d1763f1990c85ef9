/-
  Contracts and plain lemmas. By an AI agent.
-/
import Derived.Test.YtnkmbjedcjcccaaGreatDoorStrY
import Derived.Test.YtnkmbjedcjcccaaGreatDoorEng
set_option linter.all false
namespace Go.Proofs.YtnkmbjedcjcccaaGreatDoor
open Tryz
open Go Go.Eng Go.Proofs Go.Num Go.RowKit
set_option maxRecDepth 100000
theorem ir(xs ys:List Int):ci (xs++ys)=ci xs+10 ^ xs.length * ci ys:=by
 induction xs with
 | nil=>simp[ci]
 | cons d ds ih=>simp only[List.cons_append,ci,ih,List.length_cons,Int.pow_succ];grind
theorem ef.tail{d:Int}{ds:List Int}(h:ef (d::ds)):ef ds:=by
 refine⟨fun x hx=>h.1 x (by simp[hx]),?_⟩
 have:=h.2
 simp only[Num.trimL]at this
 split at this
 ·simp at this
 ·simpa using this
theorem ef.pos{xs:List Int}(h:ef xs)(hne:xs≠[]):0 < ci xs:=by
 induction xs with
 | nil=>exact absurd rfl hne
 | cons d ds ih=>
  have hd:=h.1 d (by simp)
  by_cases hds:ds=[]
  ·subst hds
   have:=h.2
   simp only[Num.trimL]at this
   by_cases h0:d=0
   ·simp[h0]at this
   ·simp only[ci];omega
  ·have:=ih h.tail hds
   simp only[ci];omega
theorem ef.ge{xs:List Int}(h:ef xs)(hne:xs≠[]):10 ^ (xs.length - 1)<=ci xs:=by
 induction xs with
 | nil=>exact absurd rfl hne
 | cons d ds ih=>
  have hd:=h.1 d (by simp)
  by_cases hds:ds=[]
  ·subst hds
   have:=h.pos (by simp)
   simp only[ci,List.length_cons,List.length_nil]at this ⊢
   simp at this ⊢;omega
  ·have:=ih h.tail hds
   obtain⟨x,xs,rfl⟩:=List.exists_cons_of_ne_nil hds
   simp only[List.length_cons,Nat.add_sub_cancel]at this ⊢
   rw[Int.pow_succ]
   simp only[ci]at this ⊢;omega
theorem qx{a b:Nat}(h:a<=b):(10:Int) ^ a<=10 ^ b:=by
 obtain⟨k,rfl⟩:=Nat.exists_eq_add_of_le h
 induction k with
 | zero=>simp
 | succ k ih=>
  have:=ih (by omega)
  rw[<-Nat.add_assoc,Int.pow_succ]
  have h0:(0:Int) < 10 ^ (a+k):=Int.pow_pos (by decide)
  omega
theorem ef.len{xs:List Int}(h:ef xs){k:Nat}(hk:ci xs < 10 ^ k):xs.length<=k:=by
 by_cases hne:xs=[]
 ·subst hne;simp
 ·have h1:=h.ge hne
  refine Classical.byContradiction fun hc=>?_
  have:=qx (a:=k) (b:=xs.length - 1) (by omega)
  omega
theorem xQ(xs:List Int)(i:Nat)(h:i<=xs.length):ci xs=ci (xs.take i)+10 ^ i * ci (xs.drop i):=by
 conv=>lhs;rw[<-List.take_append_drop i xs]
 rw[ir,List.length_take,Nat.min_eq_left h]
theorem kn.take{xs:List Int}(h:kn xs)(i:Nat):kn (xs.take i):=fun d hd=>h d (List.mem_of_mem_take hd)
theorem xR{xs ys:List Int}(hx:kn xs)(hy:kn ys){i:Nat}(h1:i < xs.length)(h2:i < ys.length)(hd:xs.drop (i+1)=ys.drop (i+1))(hlt:xs[i] < ys[i]):ci xs < ci ys:=by
 rw[xQ xs i (by omega),xQ ys i (by omega),List.drop_eq_getElem_cons h1,List.drop_eq_getElem_cons h2,hd]
 simp only[ci]
 have a1:=md (hx.take i)
 have a2:=ed (hy.take i)
 rw[List.length_take,Nat.min_eq_left (by omega)]at a1
 have hp:(0:Int) < 10 ^ i:=Int.pow_pos (by decide)
 obtain⟨k,hk⟩:∃ k,ys[i]=xs[i]+1+k/\0<=k:=⟨ys[i] - xs[i] - 1,by omega,by omega⟩
 rw[hk.1]
 have:(10:Int) ^ i * (xs[i]+1+k+10 * ci (ys.drop (i+1)))=10 ^ i * (xs[i]+10 * ci (ys.drop (i+1)))+10 ^ i+10 ^ i * k:=by grind
 rw[this]
 have:=Int.mul_nonneg (Int.le_of_lt hp) hk.2
 omega
theorem ef.lt_of_len{xs ys:List Int}(hx:ef xs)(hy:ef ys)(h:xs.length < ys.length):ci xs < ci ys:=by
 have h1:=md hx.1
 have h2:=hy.ge (by intro hc;subst hc;simp at h)
 have:=qx (a:=xs.length) (b:=ys.length - 1) (by omega)
 omega
def nQ(w:World)(v:Value)(n:Int):Prop:=∃ xs:List Int,gA w v xs/\ef xs/\ci xs=n
theorem nQ.ext{w w':World}{v:Value}{n:Int}(h:nQ w v n)(he:bK w w'):nQ w' v n:=by
 obtain⟨xs,h1,h2,h3⟩:=h;exact⟨xs,eI.ext h1 he,h2,h3⟩
theorem nQ.nonneg{w:World}{v:Value}{n:Int}(h:nQ w v n):0<=n:=by
 obtain⟨xs,_,h2,rfl⟩:=h;exact ed h2.1
theorem ED{j:Nat}{xs:List Int}(h:j < xs.length):xs.drop j=xs[j]::xs.drop (j+1):=List.drop_eq_getElem_cons h
theorem v8{w:World}{u v:Value}{xs ys:List Int}(hu:gA w u xs)(hv:gA w v ys)(hx:ef xs)(hy:ef ys)(hlx:xs.length<=1000000)(hly:ys.length<=1000000):
 Calls prog 127 #[u,v] w (bQ fun r w'=>bK w w'/\r=.int .i64 (dK (ci xs) (ci ys))):=by
 by_cases hl:xs.length=ys.length
 ·rcases hu with ⟨rfl,hx'⟩ | ⟨b,o,cap,rfl,hc,hcells⟩
  ·have h0:xs=[]:=by simpa using hx'
   have h1:ys=[]:=by rw[h0]at hl;exact List.eq_nil_of_length_eq_zero hl.symm
   subst h0;subst h1
   obtain⟨a2,cap2,rfl⟩:=hv.slice
   apply lO
   unfold jP
   (repeat (first|simp -dsimp[go_sem]|simp -dsimp (disch:=omega)only[gL,gI]))
   refine jt.mk (fun i W=>W=w/\i=.int .i64 (-1)) (fun _ _=>0) ⟨rfl,rfl⟩ ?_
   rintro i W ⟨rfl,rfl⟩
   (repeat (first|simp -dsimp[go_sem]|simp -dsimp (disch:=omega)only[gL,gI]))
   exact bQ.mk ⟨.refl _,rfl⟩
  ·rcases hv with ⟨rfl,hy'⟩ | ⟨b2,o2,cap2,rfl,hc2,hcells2⟩
   ·have h0:ys=[]:=by simpa using hy'
    have h1:xs=[]:=by rw[h0]at hl;exact List.eq_nil_of_length_eq_zero hl
    subst h0;subst h1
    apply lO
    unfold jP
    (repeat (first|simp -dsimp[go_sem]|simp -dsimp (disch:=omega)only[gL,gI]))
    refine jt.mk (fun i W=>W=w/\i=.int .i64 (-1)) (fun _ _=>0) ⟨rfl,rfl⟩ ?_
    rintro i W ⟨rfl,rfl⟩
    (repeat (first|simp -dsimp[go_sem]|simp -dsimp (disch:=omega)only[gL,gI]))
    exact bQ.mk ⟨.refl _,rfl⟩
   ·simp only[List.length_map]at hc hc2 ⊢
    apply lO
    unfold jP
    (repeat (first|simp -dsimp[go_sem,hl]|simp -dsimp (disch:=omega)only[gL,gI]))
    obtain⟨I,hI⟩:∃ I:Value->World->Prop,I=(fun i W=>bK w W/\∃ j:Nat,j<=xs.length/\i=.int .i64 ((j:Int) - 1)/\xs.drop j=ys.drop j):=⟨_,rfl⟩
    obtain⟨μ,hμ⟩:∃ μ:Value->World->Nat,μ=(fun i _=>match i with | .int _ i'=>(i'+1).toNat | _=>0):=⟨_,rfl⟩
    refine jt.mk I μ (by rw[hI];exact⟨.refl _,ys.length,by omega,by congr 1,by rw[List.drop_of_length_le (by omega),List.drop_of_length_le (by omega)]⟩) ?_
    intro i W hh
    rw[hI]at hh
    obtain⟨hW,j,hj,rfl,hd⟩:=hh
    by_cases hj0:j=0
    ·subst hj0
     (repeat (first|simp -dsimp[go_sem]|simp -dsimp (disch:=omega)only[gL,gI]))
     refine bQ.mk ⟨hW,?_⟩
     have:xs=ys:=by simpa using hd
     rw[this];simp[dK]
    ·obtain⟨k,rfl⟩:∃ k,j=k+1:=⟨j - 1,by omega⟩
     have hc1:=hW.cell' (hcells k (iv (xs[k]'(by omega))) (by simp))
     have hc3:=hW.cell' (hcells2 k (iv (ys[k]'(by omega))) (by simp))
     obtain⟨x,hxk⟩:∃ x,x=xs[k]'(by omega):=⟨_,rfl⟩
     obtain⟨y,hyk⟩:∃ y,y=ys[k]'(by omega):=⟨_,rfl⟩
     rw[<-hxk]at hc1
     rw[<-hyk]at hc3
     have e1:((k+1:Nat):Int) - 1=k:=by omega
     rw[e1]
     have hdr:bK W W.drew.drew:=bK.dr (bK.dr (.refl _))
     rcases Int.lt_trichotomy x y with h | h | h
     ·(repeat (first|simp -dsimp[go_sem,hc1,hc3]|simp -dsimp (disch:=omega)only[gL,gI]))
      refine bQ.mk ⟨hW.tr hdr,?_⟩
      have:=xR hx.1 hy.1 (i:=k) (by omega) (by omega) hd (by rw[<-hxk,<-hyk];exact h)
      unfold dK;rw[if_pos this]
     ·(repeat (first|simp -dsimp[go_sem,hc1,hc3]|simp -dsimp (disch:=omega)only[gL,gI]))
      rw[hI,hμ]
      refine⟨⟨hW.tr (bK.dr (.refl _)),k,by omega,by congr 1,?_⟩,by simp only[];omega⟩
      rw[ED (xs:=xs) (j:=k) (by omega),ED (xs:=ys) (j:=k) (by omega),hd,<-hxk,<-hyk,h]
     ·(repeat (first|simp -dsimp[go_sem,hc1,hc3]|simp -dsimp (disch:=omega)only[gL,gI]))
      refine bQ.mk ⟨hW.tr hdr,?_⟩
      have:=xR hy.1 hx.1 (i:=k) (by omega) (by omega) hd.symm (by rw[<-hxk,<-hyk];exact h)
      unfold dK;rw[if_neg (by omega),if_pos this]
 ·obtain⟨a1,cap1,rfl⟩:=hu.slice
  obtain⟨a2,cap2,rfl⟩:=hv.slice
  apply lO
  unfold jP
  rcases Nat.lt_or_gt_of_ne hl with h | h
  ·(repeat (first|simp -dsimp[go_sem]|simp -dsimp (disch:=omega)only[gL,gI]))
   refine bQ.mk ⟨.refl _,?_⟩
   have:=hx.lt_of_len hy h
   unfold dK;rw[if_pos this]
  ·(repeat (first|simp -dsimp[go_sem]|simp -dsimp (disch:=omega)only[gL,gI]))
   refine bQ.mk ⟨.refl _,?_⟩
   have:=hy.lt_of_len hx h
   unfold dK;rw[if_neg (by omega),if_pos this]
theorem HZ:∃ e,prog.underlying 33=some (.slice e):=⟨_,underlying33⟩
theorem H0{v:Value}{xs:List Int}{i:Int}{j:Nat}{w:World}{K:Value->World->Prop}(h:gA w v xs)(hi:i=j)(hj:j < xs.length)(hk:K (.int .i64 xs[j]) w):
 Ia prog 33 v (.int .i64 i) w fun a w=>Ld prog 3 a w K:=RL underlying33 Tryz.sizeOf3 Tryz.isAgg3 h hi hj hk
def dg(xs:List Int)(i:Nat):Int:=xs[i]?.getD 0
theorem xS{xs:List Int}{i:Nat}(h:i < xs.length):xs[i]=dg xs i:=by unfold dg;rw[List.getElem?_eq_getElem h];rfl
theorem sT{xs:List Int}{i:Nat}(h:xs.length<=i):dg xs i=0:=by unfold dg;rw[List.getElem?_eq_none h];rfl
theorem EE{xs:List Int}(h:kn xs)(i:Nat):0<=dg xs i/\dg xs i < 10:=by
 by_cases hi:i < xs.length
 ·rw[<-xS hi];exact h _ (List.getElem_mem _)
 ·rw[sT (by omega)];decide
theorem m6(xs:List Int)(i:Nat):ci (xs.take (i+1))=ci (xs.take i)+10 ^ i * dg xs i:=by
 by_cases hi:i < xs.length
 ·rw[List.take_add_one,List.getElem?_eq_getElem hi,ir,List.length_take,Nat.min_eq_left (by omega),<-xS hi]
  simp[ci]
 ·rw[List.take_of_length_le (by omega),List.take_of_length_le (by omega),sT (by omega)];simp
theorem BU{zs:List Int}(h:kn zs)(hge:zs≠[]->(10:Int) ^ (zs.length - 1)<=ci zs):ef zs:=by
 rcases List.eq_nil_or_concat zs with rfl | ⟨ys,d,rfl⟩
 ·exact⟨h,rfl⟩
 ·simp only[List.concat_eq_append]at *
  refine⟨h,uW ?_ ys⟩
  rintro rfl
  have h1:=hge (by simp)
  rw[ir]at h1
  have h2:=md (xs:=ys) (fun x hx=>h x (by simp[hx]))
  simp[ci]at h1
  omega
theorem Hf(p n:Int):p * n=p * (n % 10)+p * 10 * (n / 10):=by
 have e1:n=n % 10+10 * (n / 10):=by omega
 conv=>lhs;rw[e1]
 grind
theorem yO{w:World}{u v:Value}{xs ys:List Int}(hu:gA w u xs)(hv:gA w v ys)(hx:ef xs)(hy:ef ys)(hlx:xs.length<=100000)(hly:ys.length<=100000):
 Calls prog 123 #[u,v] w (bQ fun r w'=>bK w w'/\nQ w' r (ci xs+ci ys)):=by
 obtain⟨a1,cap1,rfl⟩:=hu.slice
 obtain⟨a2,cap2,rfl⟩:=hv.slice
 have hL:=HZ
 obtain⟨M,hM⟩:∃ M,M=max xs.length ys.length:=⟨_,rfl⟩
 have hp:∀ i:Nat,(0:Int) < 10 ^ i:=fun i=>Int.pow_pos (by decide)
 apply CU
 unfold vz
 obtain⟨I,hI⟩:∃ I:Value->Value->Value->World->Prop,I=(fun o c i W=>∃(zs:List Int) (c':Int),i=.int .i64 zs.length/\c=.int .i64 c'/\gz W w.heap.size 3 o (zs.map iv)/\bK w W/\kn zs/\0<=c'/\c'<=1/\
  ci zs+10 ^ zs.length * c'=ci (xs.take zs.length)+ci (ys.take zs.length)/\(zs.length<=M\/(zs.length=M+1/\c'=0/\10 ^ M<=ci zs))):=⟨_,rfl⟩
 obtain⟨μ,hμ⟩:∃ μ:Value->Value->Value->World->Nat,μ=(fun _ _ i _=>match i with | .int _ i'=>(M+2 - i').toNat | _=>0):=⟨_,rfl⟩
 refine Nv.mk I μ (by rw[hI];exact⟨[],0,rfl,rfl,gz.nil _ _ _,.refl _,by simp[kn],by decide,by decide,by simp[ci],.inl (by simp)⟩) ?_
 intro o c i W hh
 rw[hI]at hh
 obtain⟨zs,c',rfl,rfl,ho,hW,hd,hc0,hc1,hnum,htop⟩:=hh
 have hwsz:=hW.size
 by_cases hgo:zs.length < M\/0 < c'
 ·have bx:=EE hx.1 zs.length
  have bY:=EE hy.1 zs.length
  have hxW:=hu.ext hW
  have hyW:=hv.ext hW
  have fin:∀ n,n=c'+dg xs zs.length+dg ys zs.length->∀ v' W',gz W' w.heap.size 3 v' (zs.map iv++[iv (n % 10)])->Below w.heap.size W W'->
   I v' (.int .i64 (n / 10)) (.int .i64 ((zs.length:Int)+1)) W'/\μ v' (.int .i64 (n / 10)) (.int .i64 ((zs.length:Int)+1)) W' < μ o (.int .i64 c') (.int .i64 zs.length) W:=by
   intro n hn v' W' ho' hb'
   rw[hI,hμ]
   have hpow:(10:Int) ^ (zs.length+1)=10 ^ zs.length * 10:=Int.pow_succ ..
   have hnum':ci (zs++[n % 10])+10 ^ (zs++[n % 10]).length * (n / 10)=ci (xs.take (zs++[n % 10]).length)+ci (ys.take (zs++[n % 10]).length):=by
    rw[show(zs++[n % 10]).length=zs.length+1 from by simp,m6,m6,ir,hpow]
    have e2:=Hf (10 ^ zs.length) n
    have e3:(10:Int) ^ zs.length * n=10 ^ zs.length * c'+10 ^ zs.length * dg xs zs.length+10 ^ zs.length * dg ys zs.length:=by rw[hn];grind
    simp only[ci]
    have e4:(10:Int) ^ zs.length * (n % 10+10 * 0)=10 ^ zs.length * (n % 10):=by simp
    rw[e4]
    omega
   refine⟨⟨zs++[n % 10],n / 10,by simp,rfl,by simpa using ho',hW.trans hb',?_,by omega,by omega,hnum',?_⟩,by simp only[];omega⟩
   ·intro x hx'
    rcases List.mem_append.1 hx' with h | h
    ·exact hd x h
    ·simp at h;omega
   ·by_cases h:zs.length < M
    ·left;simp;omega
    ·right
     have hzM:zs.length=M:=by omega
     have h1:dg xs zs.length=0:=sT (by omega)
     have h2:dg ys zs.length=0:=sT (by omega)
     have hn1:n=1:=by omega
     refine⟨by simp;omega,by omega,?_⟩
     rw[ir,hn1,hzM]
     have:=ed hd
     simp[ci];omega
  have run:mE (fun k2=>Bt prog .len #[33] 3 #[.slice a1 xs.length cap1] W fun t28 w=>Bn prog .lss 3 false (.int .i64 zs.length) t28 w fun t29 w=>If t29
   (Ia prog 33 (.slice a1 xs.length cap1) (.int .i64 zs.length) w fun t33 w=>Ld prog 3 t33 w fun t34 w=>Bn prog .add 3 false (.int .i64 c') t34 w fun t35 w=>k2 t35 w)
   (k2 (.int .i64 c') w)) (fun t8 w=>mE (fun k3=>Bt prog .len #[33] 3 #[.slice a2 ys.length cap2] w fun t38 w=>Bn prog .lss 3 false (.int .i64 zs.length) t38 w fun t39 w=>If t39
   (Ia prog 33 (.slice a2 ys.length cap2) (.int .i64 zs.length) w fun t43 w=>Ld prog 3 t43 w fun t44 w=>Bn prog .add 3 false t8 t44 w fun t45 w=>k3 t45 w)
   (k3 t8 w)) (fun t8x1 w=>Bn prog .rem 3 true t8x1 (.int .i64 10) w fun t48 w=>Bs prog 33 1 [(0,t48)] w fun t49 w=>Bt prog .append #[33,33] 33 #[o,t49] w fun t50 w=>
   Bn prog .quo 3 true t8x1 (.int .i64 10) w fun t52 w=>Bn prog .add 3 true (.int .i64 zs.length) (.int .i64 1) w fun t24 w=>(fun b0 b1 b2 w'=>I b0 b1 b2 w'/\μ b0 b1 b2 w' < μ o (.int .i64 c') (.int .i64 zs.length) W) t50 t52 t24 w)):=by
   refine mE.mk fun K hK=>?_
   have g1:∀ n1,n1=c'+dg xs zs.length->K (.int .i64 n1) W:=by
    intro n1 hn1
    refine hK _ _ ?_
    refine mE.mk fun K2 hK2=>?_
    have g2:∀ n,n=n1+dg ys zs.length->K2 (.int .i64 n) W:=by
     intro n hn
     refine hK2 _ _ ?_
     ((refine qJ ?_ ?_ ?_;(focus omega);(focus omega)))
     have hn0:0<=n:=by omega
     have hn1':n<=100:=by omega
     refine kH xi (by decide) ho rfl rfl (by simp;omega) hwsz fun v' W' ho' hb' _=>?_
     ((refine lX ?_ ?_ ?_ ?_;(focus omega);(focus omega);(focus omega));(refine cF ?_ ?_ ?_;(focus omega);(focus omega)))
     exact fin n (by omega) v' W' ho' hb'
    by_cases h2:zs.length < ys.length
    ·((refine dw ?_ ?_;(focus assumption));(refine cy ?_ ?_;focus omega);refine co ?_)
     refine H0 hyW rfl h2 ?_
     rw[xS h2]
     ((refine cF ?_ ?_ ?_;(focus omega);(focus omega)))
     exact g2 _ rfl
    ·((refine dw ?_ ?_;(focus assumption));(refine cD ?_ ?_;focus omega);refine cf ?_)
     exact g2 _ (by rw[sT (by omega)];omega)
   by_cases h1:zs.length < xs.length
   ·((refine dw ?_ ?_;(focus assumption));(refine cy ?_ ?_;focus omega);refine co ?_)
    refine H0 hxW rfl h1 ?_
    rw[xS h1]
    ((refine cF ?_ ?_ ?_;(focus omega);(focus omega)))
    exact g1 _ rfl
   ·((refine dw ?_ ?_;(focus assumption));(refine cD ?_ ?_;focus omega);refine cf ?_)
    exact g1 _ (by rw[sT (by omega)];omega)
  have hzM:zs.length<=100001:=by omega
  by_cases h1:zs.length < xs.length
  ·((refine dw ?_ ?_;(focus assumption));(refine cy ?_ ?_;focus omega);refine aR ?_;refine aR ?_;refine aR ?_;refine aR ?_;refine aQ ?_;refine aR ?_;refine aR ?_;refine aQ ?_;refine co ?_)
   exact run
  ·by_cases h2:zs.length < ys.length
   ·((refine dw ?_ ?_;(focus assumption));(refine cD ?_ ?_;focus omega);refine ah ?_;refine ah ?_;refine ah ?_;(refine dw ?_ ?_;(focus assumption));refine ah ?_;(refine cy ?_ ?_;focus omega);refine aw ?_;refine aR ?_;refine aR ?_;refine aQ ?_;refine co ?_)
    exact run
   ·((refine dw ?_ ?_;(focus assumption));(refine cD ?_ ?_;focus omega);refine ah ?_;refine ah ?_;refine ah ?_;(refine dw ?_ ?_;(focus assumption));refine ah ?_;(refine cD ?_ ?_;focus omega);refine aw ?_;refine ah ?_;refine ah ?_;(refine eB ?_ ?_;focus omega);refine aw ?_;refine co ?_)
    exact run
 ·have hc':c'=0:=by omega
  have hge:M<=zs.length:=by omega
  have hzM:zs.length<=100001:=by omega
  ((refine dw ?_ ?_;(focus assumption));(refine cD ?_ ?_;focus omega);refine ah ?_;refine ah ?_;refine ah ?_;(refine dw ?_ ?_;(focus assumption));refine ah ?_;(refine cD ?_ ?_;focus omega);refine aw ?_;refine ah ?_;refine ah ?_;(refine d9 ?_ ?_;focus omega);refine aw ?_;refine cf ?_)
  refine bQ.mk ⟨hW,zs,ho.slAt,?_,?_⟩
  ·refine BU hd fun hne=>?_
   have hpos:0 < zs.length:=List.length_pos_iff.2 hne
   rcases htop with h | h
   ·have hzM:zs.length=M:=by omega
    rw[hc',List.take_of_length_le (by omega),List.take_of_length_le (by omega)]at hnum
    have h1:=ed hx.1
    have h2:=ed hy.1
    rw[hzM]
    by_cases hh:xs.length=M
    ·have:=hx.ge (by intro hc;rw[hc]at hh;simp at hh;omega)
     rw[hh]at this
     simp at hnum;omega
    ·have hh:ys.length=M:=by omega
     have:=hy.ge (by intro hc;rw[hc]at hh;simp at hh;omega)
     rw[hh]at this
     simp at hnum;omega
   ·rw[h.1];simpa using h.2.2
  ·rw[hc',List.take_of_length_le (by omega),List.take_of_length_le (by omega)]at hnum
   simpa using hnum
theorem PB{xs ys:List Int}(hx:ef xs)(hy:ef ys)(h:ci ys<=ci xs):ys.length<=xs.length:=by
 refine Nat.le_of_not_lt fun hc=>?_
 have:=hx.lt_of_len hy hc
 omega
theorem nR{w:World}{u v:Value}{xs ys:List Int}(hu:gA w u xs)(hv:gA w v ys)(hx:ef xs)(hy:ef ys)(hlx:xs.length<=100000)(hle:ci ys<=ci xs):
 Calls prog 124 #[u,v] w (bQ fun r w'=>bK w w'/\nQ w' r (ci xs - ci ys)/\gm w.heap.size r):=by
 have hll:=PB hx hy hle
 obtain⟨a1,cap1,rfl⟩:=hu.slice
 obtain⟨a2,cap2,rfl⟩:=hv.slice
 have hL:=HZ
 have hp:∀ i:Nat,(0:Int) < 10 ^ i:=fun i=>Int.pow_pos (by decide)
 apply A6
 unfold uc
 obtain⟨I,hI⟩:∃ I:Value->Value->Value->World->Prop,I=(fun o c i W=>∃(zs:List Int) (c':Int),i=.int .i64 zs.length/\c=.int .i64 c'/\gz W w.heap.size 3 o (zs.map iv)/\bK w W/\kn zs/\0<=c'/\c'<=1/\
  ci zs=ci (xs.take zs.length) - ci (ys.take zs.length)+10 ^ zs.length * c'/\zs.length<=xs.length):=⟨_,rfl⟩
 obtain⟨μ,hμ⟩:∃ μ:Value->Value->Value->World->Nat,μ=(fun _ _ i _=>match i with | .int _ i'=>(xs.length - i').toNat | _=>0):=⟨_,rfl⟩
 refine Nv.mk I μ (by rw[hI];exact⟨[],0,rfl,rfl,gz.nil _ _ _,.refl _,by simp[kn],by decide,by decide,by simp[ci],by simp⟩) ?_
 intro o c i W hh
 rw[hI]at hh
 obtain⟨zs,c',rfl,rfl,ho,hW,hd,hc0,hc1,hnum,htop⟩:=hh
 have hwsz:=hW.size
 by_cases hgo:zs.length < xs.length
 ·have bx:=EE hx.1 zs.length
  have bY:=EE hy.1 zs.length
  have hxW:=hu.ext hW
  have hyW:=hv.ext hW
  have fin:∀ d b:Int,0<=d->d < 10->0<=b->b<=1->d - 10 * b=dg xs zs.length - c' - dg ys zs.length->∀ v' W',gz W' w.heap.size 3 v' (zs.map iv++[iv d])->Below w.heap.size W W'->
   I v' (.int .i64 b) (.int .i64 ((zs.length:Int)+1)) W'/\μ v' (.int .i64 b) (.int .i64 ((zs.length:Int)+1)) W' < μ o (.int .i64 c') (.int .i64 zs.length) W:=by
   intro d b hd0 hd1 hb0 hb1 hdb v' W' ho' hb'
   rw[hI,hμ]
   have hpow:(10:Int) ^ (zs.length+1)=10 ^ zs.length * 10:=Int.pow_succ ..
   refine⟨⟨zs++[d],b,by simp,rfl,by simpa using ho',hW.trans hb',?_,hb0,hb1,?_,by simp;omega⟩,by simp only[];omega⟩
   ·intro x hx'
    rcases List.mem_append.1 hx' with h | h
    ·exact hd x h
    ·simp at h;omega
   ·rw[show(zs++[d]).length=zs.length+1 from by simp,m6,m6,ir,hpow]
    have e1:d=dg xs zs.length - c' - dg ys zs.length+10 * b:=by omega
    have e2:(10:Int) ^ zs.length * d=10 ^ zs.length * dg xs zs.length - 10 ^ zs.length * c' - 10 ^ zs.length * dg ys zs.length+10 ^ zs.length * 10 * b:=by
     conv=>lhs;rw[e1]
     grind
    simp only[ci]
    have e4:(10:Int) ^ zs.length * (d+10 * 0)=10 ^ zs.length * d:=by simp
    rw[e4]
    omega
  ((refine dw ?_ ?_;(focus assumption));(refine cy ?_ ?_;focus omega);refine co ?_)
  refine H0 hxW rfl hgo ?_
  rw[xS hgo]
  ((refine tN ?_ ?_ ?_;(focus omega);(focus omega)))
  refine mE.mk fun K hK=>?_
  have g:∀ n,n=dg xs zs.length - c' - dg ys zs.length->K (.int .i64 n) W:=by
   intro n hn
   refine hK _ _ ?_
   by_cases hneg:n < 0
   ·((refine cy ?_ ?_;focus omega);refine co ?_;(refine cF ?_ ?_ ?_;(focus omega);(focus omega)))
    refine kH xi (by decide) ho rfl rfl (by simp;omega) hwsz fun v' W' ho' hb' _=>?_
    ((refine cF ?_ ?_ ?_;(focus omega);(focus omega)))
    exact fin _ _ (by omega) (by omega) (by omega) (by omega) (by omega) v' W' ho' hb'
   ·((refine cD ?_ ?_;focus omega);refine cf ?_)
    refine kH xi (by decide) ho rfl rfl (by simp;omega) hwsz fun v' W' ho' hb' _=>?_
    ((refine cF ?_ ?_ ?_;(focus omega);(focus omega)))
    exact fin _ _ (by omega) (by omega) (by omega) (by omega) (by omega) v' W' ho' hb'
  by_cases h2:zs.length < ys.length
  ·((refine dw ?_ ?_;(focus assumption));(refine cy ?_ ?_;focus omega);refine co ?_)
   refine H0 hyW rfl h2 ?_
   rw[xS h2]
   ((refine tN ?_ ?_ ?_;(focus omega);(focus omega)))
   exact g _ rfl
  ·((refine dw ?_ ?_;(focus assumption));(refine cD ?_ ?_;focus omega);refine cf ?_)
   exact g _ (by rw[sT (xs:=ys) (by omega)];omega)
 ·((refine dw ?_ ?_;(focus assumption));(refine cD ?_ ?_;focus omega);refine cf ?_)
  refine cu mO (yS ho.slAt (by omega)) ?_
  rintro r _ ⟨hr,rfl,hfr⟩
  refine bQ.mk ⟨hW,⟨trimL zs,hr,ef.trimL hd,?_⟩,hfr _ (gm.own ho)⟩
  rw[oE]
  have hzl:zs.length=xs.length:=by omega
  rw[List.take_of_length_le (by omega),List.take_of_length_le (by omega)]at hnum
  have h1:=md hd
  have h2:=hp zs.length
  by_cases hc:c'=0
  ·rw[hc]at hnum;simpa using hnum
  ·rw[show c'=1 from by omega,Int.mul_one]at hnum
   omega
theorem qy{l:List UInt8}{i:Int}{j:Nat}{b:UInt8}{w:World}{K:Value->World->Prop}(hi:i=j)(h:l[j]?=some b)(hl:l.length<=1000000)(hk:K (.int .u8 b.toNat) w):Ix prog 9 (bh l) (.int .i64 i) w K:=by
 subst hi
 obtain⟨hj,hb⟩:=List.getElem?_eq_some_iff.1 h
 subst hb
 (repeat (first|simp -dsimp[go_sem,dI]|simp -dsimp (disch:=omega)only[gL,gI]))
 exact hk
theorem F9{x y:Int}{c:Bool}{w:World}{K:Value->World->Prop}(h0:0<=x - y)(h1:x - y < 256)(hk:K (.int .u8 (x - y)) w):Bn prog .sub 5 c (.int .u8 x) (.int .u8 y) w K:=by
 have e:=wu8 h0 h1
 (repeat (first|simp -dsimp[go_sem,e]|simp -dsimp (disch:=omega)only[gL,gI]))
 exact hk
theorem PD{x:Int}{w:World}{K:Value->World->Prop}(h0:0<=x)(h1:x < 256)(hk:K (.int .i64 x) w):Cv prog 5 3 (.int .u8 x) w K:=by
 (repeat (first|simp -dsimp[go_sem]|simp -dsimp (disch:=omega)only[gL,gI]))
 exact hk
theorem RP{a:UInt8}{l:List UInt8}{w:World}{K:Value->World->Prop}(hl:l.length<=1000000)(hk:K (bh l) w):Sc prog 9 (bh (a::l)) (some (.int .i64 1)) none none w K:=by
 have e:(ByteArray.mk (a::l).toArray).extract 1 (l.length+1)=⟨l.toArray⟩:=by
  apply ByteArray.ext
  apply Array.toList_inj.1
  rw[Lib.extract_data]
  simp
 (repeat (first|simp -dsimp[go_sem,dI,e]|simp -dsimp (disch:=omega)only[gL,gI]))
 exact hk
theorem ef.cons{d:Int}{xs:List Int}(h:ef xs)(hne:xs≠[])(hd:0<=d/\d < 10):ef (d::xs):=by
 refine⟨fun x hx=>?_,?_⟩
 ·rcases List.mem_cons.1 hx with rfl | hx
  ·exact hd
  ·exact h.1 x hx
 ·simp only[Num.trimL,h.2]
  rw[if_neg (fun hc=>hne hc.2)]
theorem PE{u:Nat}(hu:0 < u):∃ xs,ef xs/\ci xs=u/\AJ xs=Lib.decDigits u:=by
 induction u using Nat.strongRecOn with
 | _ u ih=>
  by_cases h:u < 10
  ·refine⟨[(u:Int)],⟨?_,?_⟩,by simp[ci],?_⟩
   ·intro x hx;simp at hx;omega
   ·simp only[Num.trimL];rw[if_neg (by omega)]
   ·rw[jD h];simp[AJ,MW]
  ·obtain⟨xs,h1,h2,h3⟩:=ih (u / 10) (by omega) (by omega)
   have hne:xs≠[]:=by
    intro hc;rw[hc]at h2;simp[ci]at h2;omega
   refine⟨((u % 10:Nat):Int)::xs,h1.cons hne (by omega),?_,?_⟩
   ·simp only[ci,h2];omega
   ·rw[ET,h3,uY h]
    have e:(((u % 10:Nat):Int)).toNat=u % 10:=Int.toNat_natCast _
    unfold MW
    rw[e]
theorem PF:Mx<=10 ^ 4000:=by unfold Mx;decide+kernel
theorem nQ.get{w:World}{v:Value}{n:Int}(h:nQ w v n)(hn:n < Mx):∃ xs,gA w v xs/\ef xs/\ci xs=n/\xs.length<=100000:=by
 obtain⟨xs,h1,h2,h3⟩:=h
 have h4:=h2.len (k:=4000) (by rw[h3];exact Int.lt_of_lt_of_le hn PF)
 exact⟨xs,h1,h2,h3,by omega⟩
theorem KE{xs:List Int}(h:ef xs):xs.length<=200↔ci xs < cr:=by
 have e:((cr:Nat):Int)=10 ^ 200:=by unfold cr;rfl
 constructor
 ·intro hl
  have h1:=md h.1
  have h2:=qx hl
  rw[e];omega
 ·intro hl
  rw[e]at hl
  exact h.len hl
theorem lF{w:World}{v:Value}{n:Int}{neg:Bool}(h:nQ w v n)(hn:n < Mx):
 Calls prog 125 #[.bool neg,v] w (bQ fun r w'=>bK w w'/\r=jE (sg neg n)):=by
 obtain⟨xs,h1,h2,rfl,h4⟩:=h.get hn
 have h0:=ed h2.1
 have hf:=KE h2
 apply yo
 unfold qQ
 refine pU jy (tz (neg:=neg) h1 h2 (by omega)) fun w1 x1=>?_
 by_cases hl:xs.length<=200
 ·rw[decide_eq_true hl]
  (refine ct ?_;refine cf ?_)
  refine bQ.mk ⟨x1,?_⟩
  unfold jE
  rw[if_pos (by rw[B3];have:=hf.1 hl;omega)]
 ·rw[decide_eq_false hl]
  (refine d7 ?_;refine co ?_)
  refine bQ.mk ⟨x1,?_⟩
  unfold jE
  rw[if_neg (by rw[B3];intro hc;exact hl (hf.2 (by omega)))]
def PG(w:World)(neg:Bool)(n:Int)(r:Value)(w':World):Prop:=bK w w'/\∃ v,r=.tuple #[.bool neg,v]/\nQ w' v n
theorem nQ.nil(w:World):nQ w (.slice none 0 0) 0:=⟨[],.inl ⟨rfl,rfl⟩,⟨by simp[kn],rfl⟩,rfl⟩
theorem TN:Lib.decDigits 0=[48]:=jD (by decide)
theorem H1{u:Nat}(h:u≠0):(Lib.decDigits u == [48])=false:=by
 rw[beq_eq_false_iff_ne]
 intro hc
 have:=Aq h
 rw[hc]at this
 exact this rfl
theorem kN{z:Int}{w:World}(hz:z.natAbs < cr):Calls prog 121 #[bh (Lib.itoa z)] w (bQ (PG w (decide (z < 0)) z.natAbs)):=by
 obtain⟨l,hl⟩:∃ l,l=Lib.decDigits z.natAbs:=⟨_,rfl⟩
 have hne:l≠[]:=by rw[hl];exact sU _
 have hlen:l.length<=200:=by rw[hl];exact(mX (by decide)).2 (by unfold cr at hz;exact hz)
 have hlp:0 < l.length:=List.length_pos_iff.2 hne
 have hS:prog.underlying 9=some .string:=underlying9
 apply Ab
 unfold sJ
 have main:∀(K:Value->World->Prop) (neg:Bool),neg=decide (z < 0)->(∀ a0 w_1,(Bt prog .len #[9] 3 #[a0] w_1 fun t14 w_1=>Bn prog .sub 3 true t14 (.int .i64 1) w_1 fun t15 w_1=>
  uN (.slice none 0 0) t15 w_1 (fun t5 t6 w_1 k2=>
  Bn prog .geq 3 true t6 (.int .i64 0) w_1 fun t17 w_1=>
  Gd t17 true (fun k=>k a0 w_1) w_1 fun t19 w_1=>
  Gd t17 true (fun k=>Bn prog .neq 9 true t19 (bh [48]) w_1 k) w_1 fun t20 w_1=>
  cH t17 t20 (.bool false) w_1 fun t21 w_1=>
  If t21
  (Ix prog 9 a0 t6 w_1 fun t27 w_1=>
  Bn prog .sub 5 true t27 (.int .u8 48) w_1 fun t28 w_1=>
  Cv prog 5 3 t28 w_1 fun t29 w_1=>
  Bs prog 33 1 [(0,t29)] w_1 fun t30 w_1=>
  Bt prog .append #[33,33] 33 #[t5,t30] w_1 fun t31 w_1=>
  Bn prog .sub 3 true t6 (.int .i64 1) w_1 fun t23 w_1=>
  k2 t31 t23 w_1)
  (bQ (PG w (decide (z < 0)) z.natAbs) (.returned (.tuple #[.bool neg,t5])) w_1)))->K a0 w_1)->K (bh l) w:=by
  intro K neg hneg hK
  refine hK _ _ ?_
  ((refine eh ?_ ?_;(focus assumption));(refine tN ?_ ?_ ?_;(focus omega);(focus omega)))
  by_cases h0:z.natAbs=0
  ·have e48:l=[48]:=by rw[hl,h0,TN]
   rw[e48]
   refine uN.mk (fun o i W=>W=w/\o=.slice none 0 0/\i=.int .i64 0) (fun _ _ _=>0) ⟨rfl,rfl,rfl⟩ ?_
   rintro o i W ⟨rfl,rfl,rfl⟩
   ((refine ft ?_ ?_;focus omega);refine aP ?_;refine aP ?_;refine yK ?_;refine aQ ?_;refine cf ?_)
   refine bQ.mk ⟨.refl _,_,by rw[hneg],?_⟩
   rw[h0];exact nQ.nil _
  ·have hn48:(l == [48])=false:=by rw[hl];exact H1 h0
   obtain⟨xs,k1,k2,k3⟩:=PE (u:=z.natAbs) (by omega)
   rw[<-hl]at k3
   have hxl:xs.length=l.length:=by rw[<-k3,u6]
   obtain⟨I,hI⟩:∃ I:Value->Value->World->Prop,I=(fun o i W=>∃ j:Nat,j<=xs.length/\i=.int .i64 ((xs.length:Int) - 1 - j)/\gz W w.heap.size 3 o ((xs.take j).map iv)/\bK w W):=⟨_,rfl⟩
   obtain⟨μ,hμ⟩:∃ μ:Value->Value->World->Nat,μ=(fun _ i _=>match i with | .int _ i'=>(i'+1).toNat | _=>0):=⟨_,rfl⟩
   refine uN.mk I μ (by rw[hI];exact⟨0,by omega,by rw[hxl];congr 1;omega,gz.nil _ _ _,.refl _⟩) ?_
   intro o i W hh
   rw[hI]at hh
   obtain⟨j,hj,rfl,ho,hW⟩:=hh
   have hwsz:=hW.size
   by_cases hjj:j=xs.length
   ·((refine jB ?_ ?_;focus omega);refine aK ?_;refine aK ?_;refine aw ?_;refine cf ?_)
    refine bQ.mk ⟨hW,_,by rw[hneg],xs,?_,k1,k2⟩
    have:=ho.slAt
    rw[hjj,List.take_of_length_le (Nat.le_refl _)]at this
    exact this
   ·have hjlt:j < xs.length:=by omega
    have hd:=k1.1 (xs[j]) (List.getElem_mem _)
    have hat:l[xs.length - 1 - j]?=some (MW xs[j]):=by
     rw[<-k3]
     unfold AJ
     rw[List.getElem?_map,List.getElem?_reverse (by omega),show xs.length - 1 - (xs.length - 1 - j)=j from by omega,List.getElem?_eq_getElem hjlt]
     rfl
    have hdn:=pP hd
    ((refine ft ?_ ?_;focus omega);refine aP ?_;refine aP ?_;(refine yL ?_ ?_;focus assumption);refine aQ ?_;refine co ?_)
    refine qy (j:=xs.length - 1 - j) (by omega) hat (by omega) ?_
    rw[hdn]
    refine F9 (by omega) (by omega) (PD (by omega) (by omega) ?_)
    refine kH xi (by decide) ho rfl rfl (by simp;omega) hwsz fun v' W' ho' hb' _=>?_
    ((refine tN ?_ ?_ ?_;(focus omega);(focus omega)))
    rw[hI,hμ]
    refine⟨⟨j+1,by omega,by congr 1;omega,?_,hW.trans hb'⟩,by simp only[];omega⟩
    rw[List.take_add_one,List.getElem?_eq_getElem hjlt,List.map_append]
    have e:((48+xs[j].toNat:Nat):Int) - 48=xs[j]:=by omega
    rw[e]at ho'
    exact ho'
 by_cases hneg:z < 0
 ·have hs:Lib.itoa z=45::l:=by unfold Lib.itoa;rw[if_pos hneg,hl]
  rw[hs]
  refine qy (j:=0) (b:=45) rfl rfl (by simp;omega) ?_
  refine ea rfl ?_
  refine mE.mk fun K hK=>?_
  (refine co ?_)
  refine RP (by omega) ?_
  exact main K true (by simp[hneg]) hK
 ·have hs:Lib.itoa z=l:=by unfold Lib.itoa;rw[if_neg hneg,hl,show z.toNat=z.natAbs from by omega]
  obtain⟨a,l',hal⟩:=List.exists_cons_of_ne_nil hne
  have ha:a.toNat≠45:=by
   intro hc
   have:=qA z.natAbs
   rw[<-hl,hal]at this
   exact this (by rw[sV (show a.toNat=(45:UInt8).toNat from hc)];rfl)
  rw[hs]
  refine qy (j:=0) (b:=a) rfl (by rw[hal];rfl) (by omega) ?_
  refine io (by omega) (mE.mk fun K hK=>?_)
  (refine cf ?_)
  exact main K false (by simp[hneg]) hK
end Go.Proofs.YtnkmbjedcjcccaaGreatDoor
