/-
  Contracts and plain lemmas. By an AI agent.
-/
import Derived.Test.YtnkmbjedcjcccaaGreatDoorSpec
import Derived.Test.YtnkmbjedcjcccaaGreatDoorEng
import Derived.Test.YtnkmbjedcjcccaaGreatDoorPlain
set_option linter.all false
namespace Go.Proofs.YtnkmbjedcjcccaaGreatDoor
open Tryz
open Go Go.Eng Go.Proofs Go.Num Go.RowKit
set_option maxRecDepth 100000
abbrev iv(x:Int):Value:=.int .i64 x
abbrev gA(w:World)(v:Value)(xs:List Int):Prop:=eI w v (xs.map iv)
theorem xZ:Sli prog 139 3 (.int .i64 0) 8:=⟨underlying139,⟨Tryz.t3,by kernel_rfl,by kernel_rfl,by kernel_rfl,by kernel_rfl⟩,rfl⟩
def gm(B:Nat)(v:Value):Prop:=∀ a n c,v=.slice (some a) n c->B<=a.block
theorem gm.mono{B C:Nat}{v:Value}(h:gm B v)(hc:C<=B):gm C v:=fun a n c hv=>Nat.le_trans hc (h a n c hv)
theorem gm.own{w:World}{base:Nat}{e:TypeId}{v:Value}{xs:List Value}(h:gz w base e v xs):gm base v:=by
 rintro a n c rfl
 exact(h.lt a.block rfl).1
theorem KA{w:World}{v:Value}{xs:List Int}(h:gA w v xs)(hl:xs.length<=1000000){i:Nat}(hi:i<=1000000):
 Calls prog 152 #[v,.int .i64 i] w (bQ fun u w'=>u=.int .i64 (uX xs i)/\w'=w):=by
 apply tF
 unfold mI
 rcases h with ⟨rfl,hx⟩ | ⟨b,o,cap,rfl,hc,hcells⟩
 ·have:xs=[]:=by simpa using hx
  subst this
  have h0:¬(i:Int) < 0:=by omega
  simp -dsimp[go_sem,h0]
  exact bQ.mk ⟨by simp[uX],rfl⟩
 ·simp only[List.length_map]at hc ⊢
  by_cases h:i < xs.length
  ·have hh:xs[i]?=some xs[i]:=List.getElem?_eq_getElem _
   have:=hcells i (iv xs[i]) (by simp[hh])
   simp -dsimp[go_sem,h,this]
   refine bQ.mk ⟨?_,rfl⟩;simp[uX,hh]
  ·have:xs[i]?=none:=by simp;omega
   simp -dsimp[go_sem,h]
   exact bQ.mk ⟨by simp[uX,this],rfl⟩
theorem mZ{w:World}{v:Value}{xs:List Int}(h:gA w v xs)(hl:xs.length<=1000000):
 Calls prog 146 #[v] w (bQ fun u w'=>gA w' u (trimL xs)/\w'=w/\∀ B,gm B v->gm B u):=by
 apply oV
 unfold jR
 refine jt.mk (fun a W=>W=w/\(∀ B,gm B v->gm B a)/\∃ ys:List Int,gA w a ys/\trimL ys=trimL xs/\ys.length<=1000000) (fun a _=>match a with | .slice _ n _=>n | _=>0) ⟨rfl,fun _ h=>h,xs,h,rfl,hl⟩ ?_
 rintro a W ⟨rfl,hf,ys,hy,ht,hly⟩
 rcases hy with ⟨rfl,hx⟩ | ⟨b,o,cap,rfl,hc,hcells⟩
 ·have:ys=[]:=by simpa using hx
  subst this
  (repeat (first|simp -dsimp[go_sem]|simp -dsimp (disch:=omega)only[gL,gI]))
  exact bQ.mk ⟨.inl ⟨rfl,by rw[<-ht];rfl⟩,rfl,hf⟩
 ·simp only[List.length_map]at hc ⊢
  rcases List.eq_nil_or_concat ys with rfl | ⟨zs,d,rfl⟩
  ·(repeat (first|simp -dsimp[go_sem]|simp -dsimp (disch:=omega)only[gL,gI]))
   exact bQ.mk ⟨.inr ⟨b,o,cap,by rw[<-ht];rfl,by rw[<-ht];simp[trimL],by rw[<-ht];intro i x hx;simp[trimL]at hx⟩,rfl,hf⟩
  ·simp only[List.concat_eq_append]at *
   have hcell:=hcells zs.length (iv d) (by simp)
   simp only[List.length_append,List.length_cons,List.length_nil]at hc hly ⊢
   by_cases hd:d=0
   ·subst hd
    (repeat (first|simp -dsimp[go_sem,hcell]|simp -dsimp (disch:=omega)only[gL,gI]))
    refine⟨fun B hB a n c hv=>hf B hB a (zs.length+1) c (by simp at hv ⊢;exact⟨hv.1,hv.2.2⟩),zs,.inr ⟨b,o,cap,by simp,by simp;omega,fun i x hx=>hcells i x ?_⟩,by rw[<-ht,mz],by omega⟩
    rw[List.map_append,List.getElem?_append_left (List.getElem?_eq_some_iff.1 hx).1];exact hx
   ·(repeat (first|simp -dsimp[go_sem,hcell,hd]|simp -dsimp (disch:=omega)only[gL,gI]))
    rw[uW hd]at ht
    exact bQ.mk ⟨.inr ⟨b,o,cap,by rw[<-ht];simp,by rw[<-ht];simp;omega,by rw[<-ht];exact hcells⟩,rfl,by simpa using hf⟩
theorem F1{w:World}{n:Nat}{g:Value}{D:Nat->Int}(hn:n<=100000)(hD:∀ i,-9999<=D i/\D i<=100000000)(h0:∀ i,n<=i->D i=0)(hpos:0<=ux D n)
 (hg:∀ W,bK w W->∀ i:Nat,i<=200000->∀ pan K,(∀ W',bK W W'->K (.int .i64 (D i)) W')->Cw prog g #[.int .i64 i] W pan K):
 Calls prog 150 #[.int .i64 n,.int .i64 0,g] w (bQ fun u W=>bK w W/\∃ xs:List Int,gA W u xs/\Dg xs/\num xs=ux D n/\xs.length<=200000/\gm w.heap.size u):=by
 apply l9
 unfold il
 (repeat (first|simp -dsimp[go_sem]|simp -dsimp (disch:=omega)only[gL,gI]))
 refine Pr xZ (by decide) (n:=n+1) (by push_cast;rfl) (by omega) (Nat.le_refl w.heap.size) ?_
 intro v0 W0 hv0 hW0
 have hW0:=World.grownBy.ext hW0
 obtain⟨I,hI⟩:∃ I:Value->Value->Value->World->Prop,I=(fun c o i W=>∃(i':Nat) (c':Int) (xs:List Int),i=.int .i64 i'/\c=.int .i64 c'/\gz W w.heap.size 3 o (xs.map iv)/\bK w W/\Dg xs/\xs.length=i'/\
  num xs+c' * 10000 ^ i'=ux D i'/\-1<=c'/\c'<=20000/\(i'<=n\/i'+c'<=n+20000)/\i'<=n+20000):=⟨_,rfl⟩
 obtain⟨μ,hμ⟩:∃ μ:Value->Value->Value->World->Nat,μ=(fun c o i _=>match c,i with | .int _ c',.int _ i'=>if i' < n then(n - i').toNat+30000 else c'.toNat | _,_=>0):=⟨_,rfl⟩
 refine Nv.mk I μ (by rw[hI];exact⟨0,0,[],rfl,rfl,hv0,hW0,by simp[Dg],rfl,by simp[num,ux],by decide,by decide,.inl (by omega),by omega⟩) ?_
 intro c o i W hh
 rw[hI]at hh
 obtain⟨i',c',xs,rfl,rfl,ho,hW,hd,hl,hnum,hc1,hc2,hi,hi2⟩:=hh
 have hwsz:=hW.size
 have hcpos:n<=i'->0<=c':=by
  intro hni
  rw[EF h0 hni]at hnum
  have:=C8 hd
  rw[hl]at this
  refine Classical.byContradiction fun hc=>?_
  have:c'= -1:=by omega
  subst this;omega
 have hgo:¬(i' < n\/c'≠0)->bQ (fun u W=>bK w W/\∃ xs:List Int,gA W u xs/\Dg xs/\num xs=ux D n/\xs.length<=200000/\gm w.heap.size u) (.returned o) W:=by
  intro h
  have h1:n<=i':=by omega
  have h2:c'=0:=by omega
  refine bQ.mk ⟨hW,xs,ho.slAt,hd,?_,by omega,gm.own ho⟩
  rw[<-EF h0 h1,<-hnum,h2];omega
 have key:(i' < n\/c'≠0)->∀ d c2:Int,0<=d->d < 10000->d+c2 * 10000=D i'+c'->-1<=c2->c2<=20000->∀ W2 (_:bK W W2) v3 W3,gz W3 w.heap.size 3 v3 (xs.map iv++[iv d])->Below w.heap.size W2 W3->
  (I (.int .i64 c2) v3 (.int .i64 ((i':Int)+1)) W3/\μ (.int .i64 c2) v3 (.int .i64 ((i':Int)+1)) W3 < μ (.int .i64 c') o (.int .i64 i') W):=by
  intro hgo d c2 hd0 hd1 hs hc21 hc22 W2 hW2 v3 W3 ho3 hb3
  have hle:n<=i'->c2 < c'/\0 < c':=by
   intro h
   have:=hcpos h
   have hDi:=h0 i' h
   omega
  rw[hI,hμ]
  show _/\(if(i':Int)+1 < n then(n - ((i':Int)+1)).toNat+30000 else c2.toNat) < (if(i':Int) < n then(n - (i':Int)).toNat+30000 else c'.toNat)
  refine⟨⟨i'+1,c2,xs++[d],by push_cast;rfl,rfl,by simpa using ho3,(hW.tr hW2).trans hb3,?_,by simp[hl],?_,hc21,hc22,?_,?_⟩,?_⟩
  ·intro x hx
   rcases List.mem_append.1 hx with h | h
   ·exact hd x h
   ·simp at h;omega
  ·rw[qz,hl]
   simp only[num,ux,<-hnum,Int.pow_succ]
   have:D i'=d+c2 * 10000 - c':=by omega
   rw[this];grind
  ·by_cases h:i' < n
   ·exact .inl (by omega)
   ·have:=hle (by omega);right;omega
  ·by_cases h:i' < n
   ·omega
   ·have:=hle (by omega);omega
  ·by_cases h:i' < n
   ·by_cases h2:i'+1 < n
    ·rw[if_pos (by omega),if_pos (by omega)];omega
    ·rw[if_neg (by omega),if_pos (by omega)];omega
   ·have:=hle (by omega)
    rw[if_neg (by omega),if_neg (by omega)];omega
 have hDi:=hD i'
 have hbase:=hW.size
 by_cases hor:i' < n\/c'≠0
 ·have hpick:(decide (i' < n) || decide (c'≠0))=true:=by simpa using hor
  have fin:∀ K,(∀ W',bK W W'->K (.int .i64 (D i')) W')->Cw prog g #[.int .i64 i'] W (Pk (bQ fun u W=>bK w W/\∃ xs:List Int,gA W u xs/\Dg xs/\num xs=ux D n/\xs.length<=200000/\gm w.heap.size u)) K:=fun K h=>hg W hW i' (by omega) _ K h
  obtain⟨s,hs⟩:∃ s,s=D i'+c':=⟨_,rfl⟩
  have how:∀ W2,bK W W2->gz W2 w.heap.size 3 o (xs.map iv):=fun W2 h=>ho.ext h
  by_cases h1:i' < n
  all_goals
   (repeat (first|simp -dsimp[go_sem,hor]|simp -dsimp (disch:=omega)only[gL,gI]))
   refine fin _ fun W2 hW2=>?_
   have hsz2:=hW2.size
   (repeat (first|simp -dsimp[go_sem,<-hs]|simp -dsimp (disch:=omega)only[gL,gI]))
   rcases Int.lt_trichotomy s 0 with h | h | h
   ·(repeat (first|simp -dsimp[go_sem]|simp -dsimp (disch:=omega)only[gL,gI]))
    refine kH xZ (by decide) (how W2 hW2) rfl rfl (by simp;omega) (by omega) fun v' W' ho' hb' _=>?_
    (repeat (first|simp -dsimp[go_sem]|simp -dsimp (disch:=omega)only[gL,gI]))
    exact key hor (s+10000) (-1) (by omega) (by omega) (by omega) (by omega) (by omega) W2 hW2 v' W' ho' hb'
   ·(repeat (first|simp -dsimp[go_sem]|simp -dsimp (disch:=omega)only[gL,gI]))
    refine kH xZ (by decide) (how W2 hW2) rfl rfl (by simp;omega) (by omega) fun v' W' ho' hb' _=>?_
    (repeat (first|simp -dsimp[go_sem]|simp -dsimp (disch:=omega)only[gL,gI]))
    exact key hor s 0 (by omega) (by omega) (by omega) (by omega) (by omega) W2 hW2 v' W' ho' hb'
   ·by_cases h3:s < 10000
    ·(repeat (first|simp -dsimp[go_sem]|simp -dsimp (disch:=omega)only[gL,gI]))
     refine kH xZ (by decide) (how W2 hW2) rfl rfl (by simp;omega) (by omega) fun v' W' ho' hb' _=>?_
     (repeat (first|simp -dsimp[go_sem]|simp -dsimp (disch:=omega)only[gL,gI]))
     exact key hor s 0 (by omega) (by omega) (by omega) (by omega) (by omega) W2 hW2 v' W' ho' hb'
    ·have hq:=Int.tdiv_eq_ediv_of_nonneg (b:=10000) (show 0<=s by omega)
     have hr:=Int.tmod_eq_emod_of_nonneg (b:=10000) (show 0<=s by omega)
     (repeat (first|simp -dsimp[go_sem,hq,hr]|simp -dsimp (disch:=omega)only[gL,gI]))
     refine kH xZ (by decide) (how W2 hW2) rfl rfl (by simp;omega) (by omega) fun v' W' ho' hb' _=>?_
     (repeat (first|simp -dsimp[go_sem]|simp -dsimp (disch:=omega)only[gL,gI]))
     exact key hor (s % 10000) (s / 10000) (by omega) (by omega) (by omega) (by omega) (by omega) W2 hW2 v' W' ho' hb'
 ·have h1:¬i' < n:=by omega
  have h2:c'=0:=by omega
  (repeat (first|simp -dsimp[go_sem,h1,h2]|simp -dsimp (disch:=omega)only[gL,gI]))
  exact hgo hor
def cV(w:World)(v:Value)(x:Int):Prop:=∃ xs:List Int,gA w v xs/\wg xs/\num xs=x
theorem cV.ext{w w':World}{v:Value}{x:Int}(h:cV w v x)(he:bK w w'):cV w' v x:=by
 obtain⟨xs,h1,h2,h3⟩:=h
 exact⟨xs,h1.ext he,h2,h3⟩
theorem eI.slice{w:World}{v:Value}{xs:List Value}(h:eI w v xs):∃ a cap,v=.slice a xs.length cap:=by
 rcases h with ⟨rfl,rfl⟩ | ⟨b,o,cap,rfl,_⟩
 ·exact⟨_,_,rfl⟩
 ·exact⟨_,_,rfl⟩
theorem gA.slice{w:World}{v:Value}{xs:List Int}(h:gA w v xs):∃ a cap,v=.slice a xs.length cap:=by
 have:=eI.slice h;simpa using this
theorem KB{w:World}{b c:Nat}{v u:Value}{xs ys:List Int}(hb:w.cell? ⟨b,0,none⟩=some v)(hc:w.cell? ⟨c,0,none⟩=some u)(hx:gA w v xs)(hy:gA w u ys)
 (hlx:xs.length<=1000000) (hly:ys.length<=1000000) (hdx:Dg xs) (hdy:Dg ys) {i:Nat} (hi:i<=1000000):
 Calls prog 151 #[.int .i64 i,.pointer (some ⟨b,0,none⟩),.pointer (some ⟨c,0,none⟩)] w (bQ fun r w'=>r=.int .i64 (uX xs i+uX ys i)/\bK w w'):=by
 have h1:=iJ hdx i
 have h2:=iJ hdy i
 obtain⟨a1,cap1,rfl⟩:=hx.slice
 obtain⟨a2,cap2,rfl⟩:=hy.slice
 apply pE
 unfold kx
 (repeat (first|simp -dsimp[go_sem,hb,hc]|simp -dsimp (disch:=omega)only[gL,gI]))
 refine cu gg (KA (hx.ext (bK.dr (.refl w))) hlx hi) ?_
 rintro _ _ ⟨rfl,rfl⟩
 (repeat (first|simp -dsimp[go_sem,hb,hc]|simp -dsimp (disch:=omega)only[gL,gI]))
 refine cu gg (KA (hy.ext (bK.dr (.refl w))) hly hi) ?_
 rintro _ _ ⟨rfl,rfl⟩
 (repeat (first|simp -dsimp[go_sem]|simp -dsimp (disch:=omega)only[gL,gI]))
 exact bQ.mk ⟨rfl,bK.dr (.refl w)⟩
theorem HX{w:World}{b c:Nat}{v u:Value}{xs ys:List Int}(hb:w.cell? ⟨b,0,none⟩=some v)(hc:w.cell? ⟨c,0,none⟩=some u)(hx:gA w v xs)(hy:gA w u ys)
 (hlx:xs.length<=1000000) (hly:ys.length<=1000000) (hdx:Dg xs) (hdy:Dg ys) {i:Nat} (hi:i<=1000000):
 Calls prog 153 #[.int .i64 i,.pointer (some ⟨b,0,none⟩),.pointer (some ⟨c,0,none⟩)] w (bQ fun r w'=>r=.int .i64 (uX xs i - uX ys i)/\bK w w'):=by
 have h1:=iJ hdx i
 have h2:=iJ hdy i
 obtain⟨a1,cap1,rfl⟩:=hx.slice
 obtain⟨a2,cap2,rfl⟩:=hy.slice
 apply oW
 unfold jS
 (repeat (first|simp -dsimp[go_sem,hb,hc]|simp -dsimp (disch:=omega)only[gL,gI]))
 refine cu gg (KA (hx.ext (bK.dr (.refl w))) hlx hi) ?_
 rintro _ _ ⟨rfl,rfl⟩
 (repeat (first|simp -dsimp[go_sem,hb,hc]|simp -dsimp (disch:=omega)only[gL,gI]))
 refine cu gg (KA (hy.ext (bK.dr (.refl w))) hly hi) ?_
 rintro _ _ ⟨rfl,rfl⟩
 (repeat (first|simp -dsimp[go_sem]|simp -dsimp (disch:=omega)only[gL,gI]))
 exact bQ.mk ⟨rfl,bK.dr (.refl w)⟩
theorem Pz{w:World}{b c:Nat}{v:Value}{k:Int}{xs:List Int}(hb:w.cell? ⟨b,0,none⟩=some v)(hc:w.cell? ⟨c,0,none⟩=some (.int .i64 k))(hx:gA w v xs)
 (hlx:xs.length<=1000000) (hdx:Dg xs) (hk0:0<=k) (hk:k<=10000) {i:Nat} (hi:i<=1000000):
 Calls prog 174 #[.int .i64 i,.pointer (some ⟨b,0,none⟩),.pointer (some ⟨c,0,none⟩)] w (bQ fun r w'=>r=.int .i64 (uX xs i * k)/\bK w w'):=by
 have h1:=iJ hdx i
 obtain⟨a1,cap1,rfl⟩:=hx.slice
 apply rp
 unfold lu
 (repeat (first|simp -dsimp[go_sem,hb,hc]|simp -dsimp (disch:=omega)only[gL,gI]))
 refine cu gg (KA (hx.ext (bK.dr (.refl w))) hlx hi) ?_
 rintro _ _ ⟨rfl,rfl⟩
 have h3:0<=uX xs i * k:=Int.mul_nonneg h1.1 hk0
 have h4:uX xs i * k<=10000 * 10000:=Int.mul_le_mul (by omega) hk hk0 (by decide)
 (repeat (first|simp -dsimp[go_sem,hb,hc]|simp -dsimp (disch:=omega)only[gL,gI]))
 exact bQ.mk ⟨rfl,bK.dr (.refl w)⟩
@[irreducible] def Mx:Int:=10000 ^ 1000
theorem cV.nonneg{w:World}{v:Value}{x:Int}(h:cV w v x):0<=x:=by
 obtain⟨xs,_,h2,rfl⟩:=h;exact num_nonneg h2.1
theorem cV.get{w:World}{v:Value}{x:Int}(h:cV w v x)(hx:x < Mx):∃ xs:List Int,gA w v xs/\wg xs/\num xs=x/\xs.length<=1000:=by
 obtain⟨xs,h1,h2,h3⟩:=h
 refine⟨xs,h1,h2,h3,h2.len ?_⟩
 unfold Mx at hx;omega
theorem F2{w:World}{u v:Value}{x y:Int}(hu:cV w u x)(hv:cV w v y)(hx:x < Mx)(hy:y < Mx):
 Calls prog 111 #[u,v] w (bQ fun r w'=>cV w' r (x+y)/\bK w w'/\gm w.heap.size r):=by
 obtain⟨xs,h1,h2,rfl,h3⟩:=hu.get hx
 obtain⟨ys,k1,k2,rfl,k3⟩:=hv.get hy
 obtain⟨a1,cap1,rfl⟩:=h1.slice
 obtain⟨a2,cap2,rfl⟩:=k1.slice
 apply rm
 unfold ll
 (repeat (first|simp -dsimp[go_sem]|simp -dsimp (disch:=omega)only[gL,gI]))
 have ht:ux (fun i=>uX xs i+uX ys i) (max xs.length ys.length)=num xs+num ys:=by
  rw[MH,wh (Nat.le_max_left ..),wh (Nat.le_max_right ..)]
 obtain⟨w1,hw1⟩:∃ w1,(w.alloc (Obj.cells #[.slice a1 xs.length cap1] 139)).alloc (Obj.cells #[.slice a2 ys.length cap2] 139)=w1:=⟨_,rfl⟩
 have he:bK w w1:=by rw[<-hw1];exact((bK.refl w).al _).al _
 have hb:w1.cell? ⟨w.heap.size,0,none⟩=some (.slice a1 xs.length cap1):=by rw[<-hw1];(repeat (first|simp -dsimp[go_sem]|simp -dsimp (disch:=omega)only[gL,gI]))
 have hc:w1.cell? ⟨w.heap.size+1,0,none⟩=some (.slice a2 ys.length cap2):=by rw[<-hw1];(repeat (first|simp -dsimp[go_sem]|simp -dsimp (disch:=omega)only[gL,gI]))
 rw[hw1,show(if xs.length < ys.length then(ys.length:Int) else xs.length)=((max xs.length ys.length:Nat):Int) from by split <;> omega]
 refine cu fI (F1 (D:=fun i=>uX xs i+uX ys i) (by omega) (fun i=>?_) (fun i hi=>?_) (by rw[ht];have:=num_nonneg h2.1;have:=num_nonneg k2.1;omega) ?_) ?_
 ·have:=iJ h2.1 i;have:=iJ k2.1 i;omega
 ·rw[wj (by omega),wj (by omega)];rfl
 ·intro W hW i hi pan K hK
  refine Ek pF (by simpa using KB (hW.cell' hb) (hW.cell' hc) ((h1.ext he).ext hW) ((k1.ext he).ext hW) (by omega) (by omega) h2.1 k2.1 (by omega)) ?_
  rintro r w' ⟨rfl,hw'⟩
  exact hK _ hw'
 ·rintro r W ⟨hW,zs,z1,z2,z3,z4,zf⟩
  refine cu dS (mZ z1 (by omega)) ?_
  rintro r2 W2 ⟨z5,rfl,z6⟩
  exact bQ.mk ⟨⟨trimL zs,z5,wg.trimL z2,by rw[m7,z3,ht]⟩,he.tr hW,(z6 _ zf).mono he.size⟩
theorem yM{w:World}{u v:Value}{x y:Int}(hu:cV w u x)(hv:cV w v y)(hx:x < Mx)(hle:y<=x):
 Calls prog 113 #[u,v] w (bQ fun r w'=>cV w' r (x - y)/\bK w w'/\gm w.heap.size r):=by
 obtain⟨xs,h1,h2,rfl,h3⟩:=hu.get hx
 obtain⟨ys,k1,k2,rfl,k3⟩:=hv.get (by omega)
 obtain⟨a1,cap1,rfl⟩:=h1.slice
 obtain⟨a2,cap2,rfl⟩:=k1.slice
 have hyx:ys.length<=xs.length:=by
  refine Nat.not_lt.1 fun hc=>?_
  have:=h2.lt_of_len k2 hc
  omega
 apply qc
 unfold kI
 (repeat (first|simp -dsimp[go_sem]|simp -dsimp (disch:=omega)only[gL,gI]))
 have ht:ux (fun i=>uX xs i - uX ys i) xs.length=num xs - num ys:=by
  rw[MI,wh (Nat.le_refl _),wh hyx]
 obtain⟨w1,hw1⟩:∃ w1,(w.alloc (Obj.cells #[.slice a1 xs.length cap1] 139)).alloc (Obj.cells #[.slice a2 ys.length cap2] 139)=w1:=⟨_,rfl⟩
 have he:bK w w1:=by rw[<-hw1];exact((bK.refl w).al _).al _
 have hb:w1.cell? ⟨w.heap.size,0,none⟩=some (.slice a1 xs.length cap1):=by rw[<-hw1];(repeat (first|simp -dsimp[go_sem]|simp -dsimp (disch:=omega)only[gL,gI]))
 have hc:w1.cell? ⟨w.heap.size+1,0,none⟩=some (.slice a2 ys.length cap2):=by rw[<-hw1];(repeat (first|simp -dsimp[go_sem]|simp -dsimp (disch:=omega)only[gL,gI]))
 rw[hw1]
 refine cu fI (F1 (D:=fun i=>uX xs i - uX ys i) (by omega) (fun i=>?_) (fun i hi=>?_) (by rw[ht];omega) ?_) ?_
 ·have:=iJ h2.1 i;have:=iJ k2.1 i;omega
 ·rw[wj (by omega),wj (by omega)];rfl
 ·intro W hW i hi pan K hK
  refine Ek oX (by simpa using HX (hW.cell' hb) (hW.cell' hc) ((h1.ext he).ext hW) ((k1.ext he).ext hW) (by omega) (by omega) h2.1 k2.1 (by omega)) ?_
  rintro r w' ⟨rfl,hw'⟩
  exact hK _ hw'
 ·rintro r W ⟨hW,zs,z1,z2,z3,z4,zf⟩
  refine cu dS (mZ z1 (by omega)) ?_
  rintro r2 W2 ⟨z5,rfl,z6⟩
  exact bQ.mk ⟨⟨trimL zs,z5,wg.trimL z2,by rw[m7,z3,ht]⟩,he.tr hW,(z6 _ zf).mono he.size⟩
theorem RO{w:World}{u:Value}{x k:Int}(hu:cV w u x)(hx:x < Mx)(hk0:0<=k)(hk:k<=10000):
 Calls prog 147 #[u,.int .i64 k] w (bQ fun r w'=>cV w' r (x * k)/\bK w w'/\gm w.heap.size r):=by
 obtain⟨xs,h1,h2,rfl,h3⟩:=hu.get hx
 obtain⟨a1,cap1,rfl⟩:=h1.slice
 apply tE
 unfold mG
 (repeat (first|simp -dsimp[go_sem]|simp -dsimp (disch:=omega)only[gL,gI]))
 have ht:ux (fun i=>uX xs i * k) xs.length=num xs * k:=by
  rw[MJ,wh (Nat.le_refl _)]
 obtain⟨w1,hw1⟩:∃ w1,(w.alloc (Obj.cells #[.slice a1 xs.length cap1] 139)).alloc (Obj.cells #[.int .i64 k] 3)=w1:=⟨_,rfl⟩
 have he:bK w w1:=by rw[<-hw1];exact((bK.refl w).al _).al _
 have hb:w1.cell? ⟨w.heap.size,0,none⟩=some (.slice a1 xs.length cap1):=by rw[<-hw1];(repeat (first|simp -dsimp[go_sem]|simp -dsimp (disch:=omega)only[gL,gI]))
 have hc:w1.cell? ⟨w.heap.size+1,0,none⟩=some (.int .i64 k):=by rw[<-hw1];(repeat (first|simp -dsimp[go_sem]|simp -dsimp (disch:=omega)only[gL,gI]))
 rw[hw1]
 refine cu fI (F1 (D:=fun i=>uX xs i * k) (by omega) (fun i=>?_) (fun i hi=>?_) (by rw[ht];exact Int.mul_nonneg (num_nonneg h2.1) hk0) ?_) ?_
 ·have h1:=iJ h2.1 i
  have h3:0<=uX xs i * k:=Int.mul_nonneg h1.1 hk0
  have h4:uX xs i * k<=10000 * 10000:=Int.mul_le_mul (by omega) hk hk0 (by decide)
  omega
 ·rw[wj (by omega)];simp
 ·intro W hW i hi pan K hK
  refine Ek rq (by simpa using Pz (hW.cell' hb) (hW.cell' hc) ((h1.ext he).ext hW) (by omega) h2.1 hk0 hk (by omega)) ?_
  rintro r w' ⟨rfl,hw'⟩
  exact hK _ hw'
 ·rintro r W ⟨hW,zs,z1,z2,z3,z4,zf⟩
  refine cu dS (mZ z1 (by omega)) ?_
  rintro r2 W2 ⟨z5,rfl,z6⟩
  exact bQ.mk ⟨⟨trimL zs,z5,wg.trimL z2,by rw[m7,z3,ht]⟩,he.tr hW,(z6 _ zf).mono he.size⟩
def qK(xs:List Int):List (Value×Value):=(xs.zipIdx.map fun p=>(Value.int .i64 p.2,iv p.1)).reverse
theorem gU(xs:List Int):(qK xs).length=xs.length:=by simp[qK]
theorem pz{xs:List Int}{i:Nat}{a b:Value}(h:(qK xs)[i]?=some (a,b)):∃(j:Nat) (x:Int),i+1+j=xs.length/\xs[j]?=some x/\a=.int .i64 j/\b=iv x:=by
 have hlt:=(List.getElem?_eq_some_iff.1 h).1
 rw[gU]at hlt
 unfold qK at h
 rw[List.getElem?_reverse (by simpa using hlt)]at h
 simp only[List.length_map,List.length_zipIdx,List.getElem?_map,List.getElem?_zipIdx]at h
 have hx:xs[xs.length - 1 - i]?=some xs[xs.length - 1 - i]:=List.getElem?_eq_getElem _
 rw[hx]at h
 simp at h
 exact⟨xs.length - 1 - i,_,by omega,hx,h.1.symm,h.2.symm⟩
theorem HY{xs:List Int}{i j:Nat}(hij:i+1+j=xs.length):(qK xs)[i]?=some (.int .i64 j,iv (xs[j]'(by omega))):=by
 have hlt:i < (qK xs).length:=by rw[gU];omega
 obtain⟨⟨a,b⟩,hab⟩:∃ p,(qK xs)[i]?=some p:=⟨_,List.getElem?_eq_getElem hlt⟩
 obtain⟨j',x,h1,h2,rfl,rfl⟩:=pz hab
 have:j'=j:=by omega
 subst this
 rw[hab]
 rw[List.getElem?_eq_getElem (by omega)]at h2
 simp at h2
 rw[h2]
theorem yN{w:World}{b:Nat}{v:Value}{xs:List Int}{J:Nat->World->Prop}(hl:xs.length<=1000000)
 (hJ:∀ i W,J i W->W.cell? ⟨b,0,none⟩=some v/\gA W v xs):
 FR prog 172 #[.pointer (some ⟨b,0,none⟩)] ((qK xs).map fun p=>[p.1,p.2]) w J:=by
 intro l JJ XX W1 hW1 hJJ hst hXst hround h0
 have hv:=(hJ 0 W1 (hJJ _ _ h0)).2
 obtain⟨a0,cap,rfl⟩:=hv.slice
 apply jm
 unfold fJ
 (repeat (first|simp -dsimp[go_sem,(hJ 0 W1 (hJJ _ _ h0)).1]|simp -dsimp (disch:=omega)only[gL,gI]))
 obtain⟨I,hI⟩:∃ I:Value->World->Prop,I=fun a W=>∃ j:Nat,j<=xs.length/\a=.int .i64 ((xs.length:Int) - 1 - j)/\JJ j W:=⟨_,rfl⟩
 obtain⟨μ,hμ⟩:∃ μ:Value->World->Nat,μ=fun a _=>match a with | .int _ x=>(x+1).toNat | _=>0:=⟨_,rfl⟩
 refine jt.mk I μ (by rw[hI];exact⟨0,by omega,by simp,h0⟩) ?_
 intro a W hh
 have hh':=hh
 rw[hI]at hh
 obtain⟨j,hj,rfl,hw⟩:=hh
 obtain⟨hc,hs⟩:=hJ _ _ (hJJ _ _ hw)
 by_cases hjn:j=xs.length
 ·subst hjn
  (repeat (first|simp -dsimp[go_sem]|simp -dsimp (disch:=omega)only[gL,gI]))
  exact .inl (by simpa [gU] using hw)
 ·obtain⟨j2,hj2⟩:∃ j2:Nat,j+1+j2=xs.length:=⟨xs.length - 1 - j,by omega⟩
  have hidx:=HY hj2
  have hij:(j2:Int)=(xs.length:Int) - 1 - j:=by omega
  rw[<-hij]at hh' ⊢
  have hr:=hround j _ W (by rw[List.getElem?_map,hidx];rfl) hw
  rcases hs with ⟨hs,hx⟩ | ⟨g,o,cap',hs,hcp,hcells⟩
  ·simp at hx;subst hx;simp at hj hjn;omega
  ·have hcell:=hcells j2 (iv (xs[j2]'(by omega))) (by simp)
   simp only[Value.slice.injEq]at hs
   obtain⟨rfl,_,rfl⟩:=hs
   (repeat (first|simp -dsimp[go_sem,hc,hcell]|simp -dsimp (disch:=omega)only[gL,gI]))
   refine Rm hr ?_
   rintro bb W' (⟨rfl,h⟩ | ⟨rfl,h⟩)
   ·(repeat (first|simp -dsimp[go_sem]|simp -dsimp (disch:=omega)only[gL,gI]))
    rw[hI,hμ]
    refine⟨⟨j+1,by omega,by congr 1;omega,h⟩,?_⟩
    show((j2:Int) - 1+1).toNat < ((j2:Int)+1).toNat
    omega
   ·(repeat (first|simp -dsimp[go_sem]|simp -dsimp (disch:=omega)only[gL,gI]))
    exact .inr h
def dK(x y:Int):Int:=if x < y then -1 else if y < x then 1 else 0
theorem He{x:Int}{w:World}:Calls prog 164 #[.int .i64 x] w (bQ fun r w'=>r=.bool false/\w'=w):=by
 apply yv
 unfold qV
 (repeat (first|simp -dsimp[go_sem]|simp -dsimp (disch:=omega)only[gL,gI]))
 exact bQ.mk ⟨rfl,rfl⟩
theorem NA{x y:Int}{w:World}:Calls prog 135 #[.int .i64 x,.int .i64 y] w (bQ fun r w'=>r=.int .i64 (dK x y)/\w'=w):=by
 apply iP
 unfold gV
 refine cu eY He ?_
 rintro _ _ ⟨rfl,rfl⟩
 refine cu eY He ?_
 rintro _ _ ⟨rfl,rfl⟩
 by_cases h1:x < y
 ·(repeat (first|simp -dsimp[go_sem]|simp -dsimp (disch:=omega)only[gL,gI]))
  exact bQ.mk ⟨by simp[dK,h1],rfl⟩
 ·by_cases h2:y < x
  ·(repeat (first|simp -dsimp[go_sem]|simp -dsimp (disch:=omega)only[gL,gI]))
   exact bQ.mk ⟨by simp[dK,h1,h2],rfl⟩
  ·(repeat (first|simp -dsimp[go_sem]|simp -dsimp (disch:=omega)only[gL,gI]))
   exact bQ.mk ⟨by simp[dK,h1,h2],rfl⟩
theorem p7{w:World}{v:Value}:Calls prog 141 #[v] w (bQ fun r w'=>r=.func (.func 172) #[] #[.pointer (some ⟨w.heap.size,0,none⟩)]/\bK w w'/\w'.heap.size=w.heap.size+1/\(v.cells=#[v]->cM w' w.heap.size 139 [v])):=by
 apply jC
 unfold fY
 (repeat (first|simp -dsimp[go_sem]|simp -dsimp (disch:=omega)only[gL,gI]))
 refine bQ.mk ⟨rfl,(bK.refl w).al _,by simp,fun h=>?_⟩
 rw[h];exact cM.al w [v] _
theorem tv{w:World}{u v:Value}{x y:Int}(hu:cV w u x)(hv:cV w v y)(hx:x < Mx)(hy:y < Mx):
 Calls prog 114 #[u,v] w (bQ fun r w'=>r=.int .i64 (dK x y)/\bK w w'):=by
 obtain⟨xs,h1,h2,rfl,h3⟩:=hu.get hx
 obtain⟨ys,k1,k2,rfl,k3⟩:=hv.get hy
 obtain⟨a1,cap1,rfl⟩:=h1.slice
 obtain⟨a2,cap2,rfl⟩:=k1.slice
 apply oS
 unfold jO
 by_cases hl:xs.length=ys.length
 ·(repeat (first|simp -dsimp[go_sem]|simp -dsimp (disch:=omega)only[gL,gI]))
  obtain⟨w1,hw1⟩:∃ w1,(w.alloc (Obj.cells #[.slice a2 ys.length cap2] 139)).alloc (Obj.cells #[.int .i64 0] 3)=w1:=⟨_,rfl⟩
  have he:bK w w1:=by rw[<-hw1];exact((bK.refl w).al _).al _
  have hb:cM w1 w.heap.size 139 [.slice a2 ys.length cap2]:=by rw[<-hw1];exact(cM.al w [_] _).ext ((bK.refl _).al _)
  have hc:cM w1 (w.heap.size+1) 3 [.int .i64 0]:=by rw[<-hw1];have:=cM.al (w.alloc (Obj.cells #[.slice a2 ys.length cap2] 139)) [.int .i64 0] 3;simpa using this
  rw[hw1]
  refine cu dF p7 ?_
  rintro _ w2 ⟨rfl,he2,hs2,hd⟩
  have hd:=hd (by simp[go_sem])
  have hsz:w.heap.size+2=w1.heap.size:=by rw[<-hw1];simp
  refine Ha.mk 172 _ (qK xs)
   (fun i W=>Below w.heap.size w W/\cM W w.heap.size 139 [.slice a2 ys.length cap2]/\cM W (w.heap.size+1) 3 [.int .i64 0]/\cM W w1.heap.size 139 [.slice a1 xs.length cap1]/\xs.drop (xs.length - i)=ys.drop (xs.length - i))
   (fun e W=>Below w.heap.size w W/\cM W (w.heap.size+1) 3 [.int .i64 (dK (num xs) (num ys))])
   rfl dC (yN (by omega) fun i W h=>⟨h.2.2.2.1.cell rfl,h1.ext h.1⟩) ?_ ?_ ?_ ?_ ?_ ?_ (by simp)
  ·rintro i W W' ⟨j1,j2,j3,j4,j5⟩ hk
   exact⟨hk.low j1 (by omega) (Nat.le_refl _),j2.bk hk,j3.bk hk,j4.bk hk,j5⟩
  ·rintro e W W' ⟨j1,j2⟩ hk
   exact⟨hk.low j1 (by omega) (Nat.le_refl _),j2.bk hk⟩
  ·exact⟨he.tr he2,hb.ext he2,hc.ext he2,hd,by simp[hl]⟩
  ·rintro a0 a1' i W hi ⟨j1,j2,j3,j4,j5⟩ hsW
   obtain⟨j,x,e1,e2,rfl,rfl⟩:=pz hi
   have k1W:=k1.ext j1
   rcases k1W with ⟨hs,hx'⟩ | ⟨g,o,cap',hs,hcp,hcells⟩
   ·have h0:ys.length=0:=by simpa using congrArg List.length hx'
    omega
   ·have hy:ys[j]?=some (ys[j]'(by omega)):=List.getElem?_eq_getElem _
    obtain⟨y,hy'⟩:∃ y,y=ys[j]'(by omega):=⟨_,rfl⟩
    rw[<-hy']at hy
    have hcell:=hcells j (iv y) (by simp[hy])
    simp only[Value.slice.injEq]at hs
    obtain⟨rfl,_,rfl⟩:=hs
    have hx2:x=xs[j]'(by omega):=by rw[List.getElem?_eq_getElem (by omega)]at e2;simpa using e2.symm
    have hji:xs.length - i=j+1:=by omega
    rw[hji]at j5
    by_cases hxy:x=y
    ·(repeat (first|simp -dsimp[go_sem,j2.cell (i:=0) rfl,hcell,hxy]|simp -dsimp (disch:=omega)only[gL,gI]))
     refine⟨⟨j1,j2,j3,j4,?_⟩,Kf.refl _ _⟩
     rw[show xs.length - (i+1)=j from by omega,List.drop_eq_getElem_cons (by omega:j < xs.length),List.drop_eq_getElem_cons (by omega:j < ys.length),j5,<-hx2,<-hy',hxy]
    ·(repeat (first|simp -dsimp[go_sem,j2.cell (i:=0) rfl,hcell,hxy]|simp -dsimp (disch:=omega)only[gL,gI]))
     refine cu iQ NA ?_
     rintro _ _ ⟨rfl,rfl⟩
     (repeat (first|simp -dsimp[go_sem,j3.cell (i:=0) rfl,j3.frz 0]|simp -dsimp (disch:=omega)only[gL,gI]))
     have hcmp:dK x y=dK (num xs) (num ys):=by
      rcases Int.lt_or_gt_of_ne hxy with h | h
      ·have:=BW h2.1 k2.1 (i:=j) (by omega) (by omega) j5 (by rw[<-hx2,<-hy'];exact h)
       simp[dK,h,this]
      ·have:=BW k2.1 h2.1 (i:=j) (by omega) (by omega) j5.symm (by rw[<-hx2,<-hy'];exact h)
       have a1:¬x < y:=by omega
       have a2:¬num xs < num ys:=by omega
       simp[dK,h,this,a1,a2]
     rw[<-hcmp]
     exact⟨⟨bK.stB j1 (show w.heap.size<=w.heap.size+1 by omega) _,j3.set1 _⟩,Kf.setLow _ (show w.heap.size+1 < _ by omega) _⟩
  ·rintro D W hD hWD ⟨j1,j2,j3,j4,j5⟩
   (repeat (first|simp -dsimp[go_sem,j3.cell (i:=0) rfl,j3.frz 0]|simp -dsimp (disch:=omega)only[gL,gI]))
   have j6:=j3.set1 (.int .i64 0)
   have hWD':(W.setCell ⟨w.heap.size+1,0,none⟩ (.int .i64 0)).heap[D]?=some (.deferred (some [])):=(heap_setCell_other W _ D _ (show D≠w.heap.size+1 by omega)).trans hWD
   refine Tk.mk hWD' fun w' hb' hk'=>?_
   have j7:=j6.tk hWD' hk'
   (repeat (first|simp -dsimp[go_sem,j7.cell (i:=0) rfl]|simp -dsimp (disch:=omega)only[gL,gI]))
   rw[gU,Nat.sub_self]at j5
   have:xs=ys:=by simpa using j5
   refine bQ.mk ⟨by rw[this];simp[dK],(bK.stB j1 (show w.heap.size<=w.heap.size+1 by omega) _).trans (hb'.mono (by omega))⟩
  ·rintro D W hD hWD ⟨j1,j2⟩
   refine Tk.mk hWD fun w' hb' hk'=>?_
   (repeat (first|simp -dsimp[go_sem,(j2.tk hWD hk').cell (i:=0) rfl]|simp -dsimp (disch:=omega)only[gL,gI]))
   exact bQ.mk ⟨rfl,j1.trans (hb'.mono (by omega))⟩
 ·(repeat (first|simp -dsimp[go_sem]|simp -dsimp (disch:=omega)only[gL,gI]))
  refine cu iQ NA ?_
  rintro _ _ ⟨rfl,rfl⟩
  (repeat (first|simp -dsimp[go_sem]|simp -dsimp (disch:=omega)only[gL,gI]))
  refine bQ.mk ⟨?_,((bK.refl w).al _).al _⟩
  rcases Nat.lt_or_gt_of_ne hl with h | h
  ·have:=h2.lt_of_len k2 h
   simp[dK,this,h]
  ·have:=k2.lt_of_len h2 h
   have a1:¬num xs < num ys:=by omega
   have a2:¬xs.length < ys.length:=by omega
   simp[dK,this,h,a1,a2]
theorem cV.bk{B:Nat}{w w':World}{v:Value}{x:Int}(h:cV w v x)(he:Bk B w w'):cV w' v x:=by
 obtain⟨xs,h1,h2,h3⟩:=h
 exact⟨xs,eI.bk h1 he,h2,h3⟩
theorem gA.setBlk{W:World}{v:Value}{xs:List Int}(h:gA W v xs){b:Nat}{ty:TypeId}{cs:List Value}(hb:cM W b ty cs)(hne:∀ c∈cs,∀ x,c≠iv x)(i:Nat)(u:Value):gA (W.setCell ⟨b,i,none⟩ u) v xs:=
 eI.setBlk h hb (fun x hx c hc he=>by obtain⟨y,_,rfl⟩:=List.mem_map.1 hx;exact hne c hc y he.symm) i u
theorem cV.setBlk{W:World}{v:Value}{x:Int}(h:cV W v x){b:Nat}{ty:TypeId}{cs:List Value}(hb:cM W b ty cs)(hne:∀ c∈cs,∀ x,c≠iv x)(i:Nat)(u:Value):cV (W.setCell ⟨b,i,none⟩ u) v x:=by
 obtain⟨xs,h1,h2,h3⟩:=h
 exact⟨xs,h1.setBlk hb hne i u,h2,h3⟩
theorem cV.nil(W:World):cV W (.slice none 0 0) 0:=⟨[],.inl ⟨rfl,rfl⟩,⟨by simp[Dg],rfl⟩,rfl⟩
theorem cV.slice{W:World}{v:Value}{x:Int}(h:cV W v x):∃ a n cap,v=.slice a n cap:=by
 obtain⟨xs,h1,_⟩:=h;obtain⟨a,c,rfl⟩:=h1.slice;exact⟨_,_,_,rfl⟩
theorem MG{w:World}{u v:Value}{x y:Int}(hu:cV w u x)(hv:cV w v y)(hx:x < Mx)(hy:y < Mx)(hxy:x * y < Mx):
 Calls prog 144 #[u,v] w (bQ fun r w'=>cV w' r (x * y)/\bK w w'):=by
 have hx0:=hu.nonneg
 obtain⟨ys,k1,k2,rfl,k3⟩:=hv.get hy
 obtain⟨a2,cap2,rfl⟩:=k1.slice
 obtain⟨a1,n1,cap1,rfl⟩:=hu.slice
 obtain⟨u,hu'⟩:∃ u,u=Value.slice a1 n1 cap1:=⟨_,rfl⟩
 apply qh
 unfold kK
 (repeat (first|simp -dsimp[go_sem]|simp -dsimp (disch:=omega)only[gL,gI]))
 rw[<-hu']at hu ⊢
 obtain⟨w1,hw1⟩:∃ w1,(w.alloc (Obj.cells #[u] 139)).alloc (Obj.cells #[.slice none 0 0] 139)=w1:=⟨_,rfl⟩
 have he:bK w w1:=by rw[<-hw1];exact((bK.refl w).al _).al _
 have hb:cM w1 w.heap.size 139 [u]:=by rw[<-hw1];exact(cM.al w [_] _).ext ((bK.refl _).al _)
 have hc:cM w1 (w.heap.size+1) 139 [.slice none 0 0]:=by rw[<-hw1];have:=cM.al (w.alloc (Obj.cells #[u] 139)) [.slice none 0 0] 139;simpa using this
 have hsz:w.heap.size+2=w1.heap.size:=by rw[<-hw1];simp
 rw[hw1]
 refine cu dF p7 ?_
 rintro _ w2 ⟨rfl,he2,hs2,hd⟩
 have hd:=hd (by simp[go_sem])
 obtain⟨J,hJ⟩:∃ J:Nat->World->Prop,J=fun i W=>Below w.heap.size w W/\cM W w.heap.size 139 [u]/\cM W w1.heap.size 139 [.slice a2 ys.length cap2]/\
  ∃ o,cM W (w.heap.size+1) 139 [o]/\cV W o (x * num (ys.drop (ys.length - i))):=⟨_,rfl⟩
 refine Ha.mk 172 _ (qK ys) J (fun e W=>False)
  rfl dC (yN (v:=.slice a2 ys.length cap2) (by omega) fun i W h=>?_) ?_ ?_ ?_ ?_ ?_ ?_ (by simp)
 ·rw[hJ]at h
  exact⟨h.2.2.1.cell rfl,k1.ext h.1⟩
 ·rw[hJ]
  rintro i W W' ⟨j1,j2,j3,o,j4,j5⟩ hk
  exact⟨hk.low j1 (by omega) (Nat.le_refl _),j2.bk hk,j3.bk hk,o,j4.bk hk,j5.bk hk⟩
 ·exact fun _ _ _ h=>h.elim
 ·rw[hJ]
  exact⟨he.tr he2,hb.ext he2,hd,_,hc.ext he2,by simpa [num] using cV.nil w2⟩
 ·rintro a0 a1' i W hi hjw hsW
  have hjw':=hjw
  rw[hJ]at hjw
  obtain⟨j1,j2,j3,o,j4,j5⟩:=hjw
  obtain⟨j,d,e1,e2,rfl,rfl⟩:=pz hi
  have hji:ys.length - i=j+1:=by omega
  rw[hji]at j5
  have hdy:d=ys[j]'(by omega):=by rw[List.getElem?_eq_getElem (by omega)]at e2;simpa using e2.symm
  have hd2:=k2.1 d (by rw[hdy];exact List.getElem_mem _)
  have hstep:num (ys.drop j)=d+10000 * num (ys.drop (j+1)):=by
   rw[List.drop_eq_getElem_cons (by omega:j < ys.length),<-hdy];rfl
  have hdle:=EH k2.1 j
  have hnn:=num_nonneg (k2.1.drop (j+1))
  have hle:x * num (ys.drop j)<=x * num ys:=Int.mul_le_mul_of_nonneg_left hdle hx0
  have hxd:0<=x * d:=Int.mul_nonneg hx0 hd2.1
  have hxn:0<=x * num (ys.drop (j+1)):=Int.mul_nonneg hx0 hnn
  have hexp:x * num (ys.drop j)=x * d+10000 * (x * num (ys.drop (j+1))):=by rw[hstep];grind
  refine Iu.mk fun K hK=>?_
  have hK2:∀ W2,Below w.heap.size w W2->cM W2 w.heap.size 139 [u]->cM W2 w1.heap.size 139 [.slice a2 ys.length cap2]->Kf w2.heap.size W W2->
   ∀ o2,cM W2 (w.heap.size+1) 139 [o2]->cV W2 o2 (10000 * (x * num (ys.drop (j+1))))->K W2:=by
   intro W2 i1 i2 i3 i4 o2 i5 i6
   refine hK W2 ?_
   subst hu'
   obtain⟨a3,n3,cap3,rfl⟩:=i6.slice
   have hu2:=hu.ext i1
   (repeat (first|simp -dsimp[go_sem,i5.cell (i:=0) rfl,i2.cell (i:=0) rfl]|simp -dsimp (disch:=omega)only[gL,gI]))
   refine cu mH (RO (hu2.ext (bK.dr (.refl W2))) hx hd2.1 (by omega)) ?_
   rintro r W3 ⟨q1,q2,q3⟩
   have q2':bK W2 W3:=(bK.dr (.refl W2)).tr q2
   have i5':=i5.ext q2'
   (repeat (first|simp -dsimp[go_sem,i5'.cell (i:=0) rfl]|simp -dsimp (disch:=omega)only[gL,gI]))
   refine cu iL (F2 (i6.ext q2') q1 (by omega) (by omega)) ?_
   rintro r2 W4 ⟨p1,p2,p3⟩
   have i5'':=i5'.ext p2
   obtain⟨a5,n5,cap5,rfl⟩:=p1.slice
   (repeat (first|simp -dsimp[go_sem,i5''.cell (i:=0) rfl,i5''.frz 0]|simp -dsimp (disch:=omega)only[gL,gI]))
   have e24:Below w.heap.size W2 W4:=(q2'.tr p2).mono i1.size
   have l1:w.heap.size+1 < W4.heap.size:=i5''.lt
   refine⟨?_,?_⟩
   ·rw[hJ]
    refine⟨bK.stB (i1.trans e24) (show w.heap.size<=w.heap.size+1 by omega) _,((i2.ext q2').ext p2).setOther (show w.heap.size≠w.heap.size+1 by omega) _,((i3.ext q2').ext p2).setOther (show w1.heap.size≠w.heap.size+1 by omega) _,_,i5''.set1 _,?_⟩
    rw[show ys.length - (i+1)=j from by omega,hexp,Int.add_comm]
    exact p1.setBlk i5'' (by simp) 0 _
   ·exact(i4.trans ((Kf.ext q2').trans (Kf.ext p2))).trans (Kf.setLow _ (show w.heap.size+1 < w2.heap.size by omega) _)
  obtain⟨zs,z1,z2,z3,z4⟩:=j5.get (by omega)
  obtain⟨a3,cap3,rfl⟩:=z1.slice
  by_cases hz:zs=[]
  ·subst hz
   (repeat (first|simp -dsimp[go_sem,j4.cell (i:=0) rfl]|simp -dsimp (disch:=omega)only[gL,gI]))
   have:x * num (ys.drop (j+1))=0:=by rw[<-z3];rfl
   exact hK2 W j1 j2 j3 (Kf.refl _ _) _ j4 (by rw[this];exact⟨[],z1,z2,rfl⟩)
  ·have hzl:0 < zs.length:=List.length_pos_iff.2 hz
   (repeat (first|simp -dsimp[go_sem,j4.cell (i:=0) rfl]|simp -dsimp (disch:=omega)only[gL,gI]))
   refine uO xZ rfl (Nat.le_refl W.heap.size) ?_
   intro v3 W3 o3 g3 _
   have e3:=World.grownBy.ext g3
   have j4':=j4.ext e3
   (repeat (first|simp -dsimp[go_sem,j4'.cell (i:=0) rfl]|simp -dsimp (disch:=omega)only[gL,gI]))
   refine CQ xZ (by decide) o3 (z1.ext e3) (fun y hy=>by obtain⟨y,_,rfl⟩:=List.mem_map.1 hy;rfl) (by simp;omega) e3.size ?_
   intro v4 W4 o4 g4
   have e4:=World.grownBy.below g4 e3.size fun k hk=>(o3.lt k hk).1
   have e4':bK W W4:=e3.trans e4
   have j4'':=j4.ext e4'
   obtain⟨a5,cap5,hv4⟩:=eI.slice o4.slAt
   subst hv4
   have o5:gA W4 (.slice a5 (zs.length+1) cap5) (0::zs):=by have:=o4.slAt;simp only[List.length_append,List.length_map,List.length_cons,List.length_nil,Nat.zero_add,Nat.add_comm 1]at this;exact this
   (repeat (first|simp -dsimp[go_sem,j4''.cell (i:=0) rfl,j4''.frz 0]|simp -dsimp (disch:=omega)only[gL,gI]))
   refine hK2 _ (bK.stB (j1.trans (e4'.mono j1.size)) (show w.heap.size<=w.heap.size+1 by omega) _) ((j2.ext e4').setOther (show w.heap.size≠w.heap.size+1 by omega) _) ((j3.ext e4').setOther (show w1.heap.size≠w.heap.size+1 by omega) _) ((Kf.ext e4').trans (Kf.setLow _ (show w.heap.size+1 < w2.heap.size by omega) _)) _ (j4''.set1 _) ?_
   refine cV.setBlk ⟨0::zs,o5,z2.cons hz (by decide) (by decide),?_⟩ j4'' (by simp) 0 _
   simp only[num,z3];omega
 ·rintro D W hD hWD hjw
  rw[hJ]at hjw
  obtain⟨j1,j2,j3,o,j4,j5⟩:=hjw
  rw[gU,Nat.sub_self,List.drop_zero]at j5
  obtain⟨a3,n3,cap3,rfl⟩:=j5.slice
  (repeat (first|simp -dsimp[go_sem,j4.cell (i:=0) rfl]|simp -dsimp (disch:=omega)only[gL,gI]))
  refine Tk.mk hWD fun w' hb' hk'=>?_
  obtain⟨zs,z1,z2,z3⟩:=j5
  exact bQ.mk ⟨⟨zs,z1.tk hWD hk',z2,z3⟩,j1.trans (hb'.mono (by omega))⟩
 ·exact fun _ _ _ _ h=>h.elim
theorem KC{w:World}{n:Nat}{g:Value}(p:Nat->Bool)(hn:n<=1000000000)
 (hg:∀ W,bK w W->∀ i:Nat,i < n->∀ pan K,(∀ W',bK W W'->K (.bool (p i)) W')->Cw prog g #[.int .i64 i] W pan K):
 Calls prog 149 #[.int .i64 n,g] w (bQ fun r w'=>bK w w'/\∃ k:Nat,k<=n/\r=.int .i64 k/\(0 < k->p (k - 1)=false)/\(k < n->p k=true)):=by
 apply A7
 unfold ue
 obtain⟨I,hI⟩:∃ I:Value->Value->World->Prop,I=(fun i j W=>∃ a b:Nat,i=.int .i64 a/\j=.int .i64 b/\a<=b/\b<=n/\bK w W/\(0 < a->p (a - 1)=false)/\(b < n->p b=true)):=⟨_,rfl⟩
 obtain⟨μ,hμ⟩:∃ μ:Value->Value->World->Nat,μ=(fun i j _=>match i,j with | .int _ a,.int _ b=>(b - a).toNat | _,_=>0):=⟨_,rfl⟩
 refine uN.mk I μ (by rw[hI];exact⟨0,n,rfl,rfl,by omega,by omega,.refl w,by simp,by simp⟩) ?_
 intro i j W hh
 rw[hI]at hh
 obtain⟨a,b,rfl,rfl,hab,hb,hW,h1,h2⟩:=hh
 by_cases h:a < b
 ·obtain⟨m,hm⟩:∃ m:Nat,m=(a+b) / 2:=⟨_,rfl⟩
  have hm2:((a:Int)+b) / 2=m:=by omega
  (repeat (first|simp -dsimp[go_sem,hm2]|simp -dsimp (disch:=omega)only[gL,gI]))
  refine hg W hW m (by omega) _ _ fun W' hW'=>?_
  cases hp:p m with
  | false=>
   (repeat (first|simp -dsimp[go_sem,hm2]|simp -dsimp (disch:=omega)only[gL,gI]))
   rw[hI,hμ]
   refine⟨⟨m+1,b,by simp,rfl,by omega,hb,hW.tr hW',fun _=>by simpa using hp,h2⟩,?_⟩
   show((b:Int) - (m+1)).toNat < ((b:Int) - a).toNat
   omega
  | true=>
   (repeat (first|simp -dsimp[go_sem,hm2]|simp -dsimp (disch:=omega)only[gL,gI]))
   rw[hI,hμ]
   refine⟨⟨a,m,rfl,rfl,by omega,by omega,hW.tr hW',h1,fun _=>hp⟩,?_⟩
   show((m:Int) - a).toNat < ((b:Int) - a).toNat
   omega
 ·(repeat (first|simp -dsimp[go_sem]|simp -dsimp (disch:=omega)only[gL,gI]))
  exact bQ.mk ⟨hW,a,by omega,rfl,h1,fun h3=>by rw[show a=b from by omega];exact h2 (by omega)⟩
theorem NB{w:World}{u:Value}{x k:Int}(hu:cV w u x)(hx:x < Mx)(hk0:0<=k)(hk:k<=10000){pan:List PanicEntry->World->Prop}{K:Value->World->Prop}
 (h:∀ r w',cV w' r (x * k)->bK w w'->gm w.heap.size r->K r w'):Cw prog (.func (.func 147) #[u] #[]) #[.int .i64 k] w pan K:=by
 refine Ek mH (by simpa using RO hu hx hk0 hk) ?_
 rintro r w' ⟨h1,h2,h3⟩
 exact h r w' h1 h2 h3
theorem KD{w:World}{b c:Nat}{m r:Value}{y z:Int}{ty1 ty2:TypeId}(hb:cM w b ty1 [.func (.func 147) #[m] #[]])(hc:cM w c ty2 [r])(hm:cV w m y)(hr:cV w r z)(hy:y < Mx)(hy2:y * 10000 < Mx)(hz:z < Mx){d:Nat}(hd:d < 9999):
 Calls prog 148 #[.int .i64 d,.pointer (some ⟨b,0,none⟩),.pointer (some ⟨c,0,none⟩)] w (bQ fun v w'=>v=.bool (decide (z < y * (d+1)))/\bK w w'):=by
 have hy0:=hm.nonneg
 obtain⟨a1,n1,cap1,rfl⟩:=hr.slice
 obtain⟨a2,n2,cap2,rfl⟩:=hm.slice
 have hle:y * (d+1)<=y * 10000:=Int.mul_le_mul_of_nonneg_left (by omega) hy0
 apply pC
 unfold kw
 (repeat (first|simp -dsimp[go_sem,hb.cell (i:=0) rfl,hc.cell (i:=0) rfl]|simp -dsimp (disch:=omega)only[gL,gI]))
 refine NB (hm.ext (bK.dr (.refl w))) hy (by omega) (by omega) ?_
 intro v w1 h1 h2 h3
 have h2':bK w w1:=(bK.dr (.refl w)).tr h2
 (repeat (first|simp -dsimp[go_sem,(hc.ext h2').cell (i:=0) rfl]|simp -dsimp (disch:=omega)only[gL,gI]))
 refine cu fD (tv h1 (hr.ext h2') (by omega) hz) ?_
 rintro _ w2 ⟨rfl,h4⟩
 by_cases hlt:z < y * (d+1)
 ·have:dK (y * (d+1)) z=1:=by simp[dK,hlt];omega
  (repeat (first|simp -dsimp[go_sem,this,hlt]|simp -dsimp (disch:=omega)only[gL,gI]))
  exact bQ.mk ⟨rfl,h2'.tr h4⟩
 ·have:dK (y * (d+1)) z<=0:=by unfold dK;split <;> omega
  (repeat (first|simp -dsimp[go_sem,hlt]|simp -dsimp (disch:=omega)only[gL,gI]))
  exact bQ.mk ⟨rfl,h2'.tr h4⟩
theorem F3{y z:Int}(hy:0 < y)(hz:0<=z)(hlt:z < y * 10000){k:Nat}(hk:k<=9999)(h1:0 < k->decide (z < y * (((k - 1:Nat):Int)+1))=false)(h2:k < 9999->decide (z < y * ((k:Int)+1))=true):(k:Int)=z / y/\y * k<=z:=by
 have a1:y * k<=z:=by
  by_cases h:k=0
  ·subst h;simpa using hz
  ·have:=h1 (by omega)
   rw[show(((k - 1:Nat):Int)+1)=k from by omega]at this
   simpa using this
 have a2:z < y * ((k:Int)+1):=by
  by_cases h:k=9999
  ·subst h;simpa using hlt
  ·simpa using h2 (by omega)
 refine⟨?_,a1⟩
 have b1:(k:Int)<=z / y:=(Int.le_ediv_iff_mul_le hy).2 (by rw[Int.mul_comm];exact a1)
 have b2:z / y < k+1:=(Int.ediv_lt_iff_lt_mul hy).2 (by rw[Int.mul_comm];exact a2)
 omega
theorem PA{w:World}{u v:Value}{x y:Int}(hu:cV w u x)(hv:cV w v y)(hx:x < Mx)(hy0:0 < y)(hy:y * 10000 < Mx):
 Calls prog 110 #[u,v] w (bQ fun r w'=>bK w w'/\∃ q m,r=.tuple #[q,m]/\cV w' q (x / y)/\cV w' m (x % y)):=by
 have hyM:y < Mx:=by omega
 obtain⟨xs,k1,k2,rfl,k3⟩:=hu.get hx
 obtain⟨a2,cap2,rfl⟩:=k1.slice
 obtain⟨a1,n1,cap1,rfl⟩:=hv.slice
 obtain⟨v,hv'⟩:∃ v,v=Value.slice a1 n1 cap1:=⟨_,rfl⟩
 apply rl
 unfold li
 (repeat (first|simp -dsimp[go_sem]|simp -dsimp (disch:=omega)only[gL,gI]))
 rw[<-hv']at hv ⊢
 obtain⟨w1,hw1⟩:∃ w1,((w.alloc (Obj.cells #[v] 139)).alloc (Obj.cells #[.slice none 0 0] 139)).alloc (Obj.cells #[.slice none 0 0] 139)=w1:=⟨_,rfl⟩
 have he:bK w w1:=by rw[<-hw1];exact(((bK.refl w).al _).al _).al _
 have hb:cM w1 w.heap.size 139 [v]:=by rw[<-hw1];exact((cM.al w [_] _).ext ((bK.refl _).al _)).ext ((bK.refl _).al _)
 have hc:cM w1 (w.heap.size+1) 139 [.slice none 0 0]:=by
  rw[<-hw1];have:=(cM.al (w.alloc (Obj.cells #[v] 139)) [.slice none 0 0] 139).ext ((bK.refl _).al (Obj.cells #[.slice none 0 0] 139));simpa using this
 have hd:cM w1 (w.heap.size+2) 139 [.slice none 0 0]:=by
  rw[<-hw1];have:=cM.al ((w.alloc (Obj.cells #[v] 139)).alloc (Obj.cells #[.slice none 0 0] 139)) [.slice none 0 0] 139;simpa using this
 have hsz:w.heap.size+3=w1.heap.size:=by rw[<-hw1];simp
 rw[hw1]
 refine CP xZ (by decide) (n:=xs.length) rfl (by omega) (Nat.le_refl w1.heap.size) ?_
 intro w2 hq g2
 have e2:=World.grownBy.ext g2
 have hqb:cM w2 w1.heap.size 3 ((List.replicate xs.length 0).map iv):=by simpa using hq.blk (by simp)
 have hc2:=hc.ext e2
 (repeat (first|simp -dsimp[go_sem,hc2.cell (i:=0) rfl,hc2.frz 0]|simp -dsimp (disch:=omega)only[gL,gI]))
 obtain⟨q,hqv⟩:∃ q,q=Value.slice (some ⟨w1.heap.size,0,none⟩) xs.length xs.length:=⟨_,rfl⟩
 obtain⟨qb,hqbe⟩:∃ qb,qb=w1.heap.size:=⟨_,rfl⟩
 rw[<-hqbe]at hqb hqv hsz
 rw[<-hqbe,<-hqv]
 obtain⟨w3,hw3⟩:∃ w3,w2.setCell ⟨w.heap.size+1,0,none⟩ q=w3:=⟨_,rfl⟩
 have e3:Below w.heap.size w w3:=by rw[<-hw3];exact bK.stB (he.tr e2) (show w.heap.size<=w.heap.size+1 by omega) _
 have hs3:w3.heap.size=w2.heap.size:=by rw[<-hw3];simp
 have hlt:=hqb.lt
 have m1:cM w3 w.heap.size 139 [v]:=by rw[<-hw3];exact(hb.ext e2).setOther (show w.heap.size≠w.heap.size+1 by omega) _
 have m2:cM w3 (w.heap.size+1) 139 [q]:=by rw[<-hw3];exact hc2.set1 _
 have m3:cM w3 (w.heap.size+1+1) 139 [.slice none 0 0]:=by rw[<-hw3];exact(hd.ext e2).setOther (show w.heap.size+1+1≠w.heap.size+1 by omega) _
 have m4:cM w3 qb 3 ((List.replicate xs.length 0).map iv):=by rw[<-hw3];exact hqb.setOther (show qb≠w.heap.size+1 by omega) _
 rw[hw3]
 refine cu dF p7 ?_
 rintro _ w4 ⟨rfl,e4,hs4,m5⟩
 have m5:=m5 (by simp[go_sem])
 obtain⟨J,hJ⟩:∃ J:Nat->World->Prop,J=fun i W=>Below w.heap.size w W/\cM W w.heap.size 139 [v]/\cM W w3.heap.size 139 [.slice a2 xs.length cap2]/\cM W (w.heap.size+1) 139 [q]/\
  (∃ qs:List Int,qs.length=xs.length/\cM W qb 3 (qs.map iv)/\Dg qs/\num (qs.drop (xs.length - i))=num (xs.drop (xs.length - i)) / y)/\
  ∃ r,cM W (w.heap.size+1+1) 139 [r]/\cV W r (num (xs.drop (xs.length - i)) % y)/\gm (qb+1) r:=⟨_,rfl⟩
 refine Ha.mk 172 _ (qK xs) J (fun e W=>False)
  rfl dC (yN (v:=.slice a2 xs.length cap2) (by omega) fun i W h=>?_) ?_ ?_ ?_ ?_ ?_ ?_ (by simp)
 ·rw[hJ]at h
  exact⟨h.2.2.1.cell rfl,k1.ext h.1⟩
 ·rw[hJ]
  rintro i W W' ⟨j1,j2,j3,j4,⟨qs,j5,j6,j7,j8⟩,r,j9,j10,j11⟩ hk
  exact⟨hk.low j1 (by omega) (Nat.le_refl _),j2.bk hk,j3.bk hk,j4.bk hk,⟨qs,j5,j6.bk hk,j7,j8⟩,r,j9.bk hk,j10.bk hk,j11⟩
 ·exact fun _ _ _ h=>h.elim
 ·rw[hJ]
  refine⟨e3.trans (e4.mono e3.size),m1.ext e4,m5,m2.ext e4,⟨List.replicate xs.length 0,by simp,m4.ext e4,?_,?_⟩,_,m3.ext e4,?_,?_⟩
  ·intro d hd;simp at hd;omega
  ·simp[num]
  ·simpa [num] using cV.nil w4
  ·intro a n c h;simp at h
 ·rintro a0 a1' i W hi hjw hsW
  rw[hJ]at hjw
  obtain⟨j1,j2,j3,j4,⟨qs,j5,j6,j7,j8⟩,r,j9,j10,j11⟩:=hjw
  obtain⟨j,d,e1',e2',rfl,rfl⟩:=pz hi
  have hji:xs.length - i=j+1:=by omega
  rw[hji]at j8 j10
  have hdy:d=xs[j]'(by omega):=by rw[List.getElem?_eq_getElem (by omega)]at e2';simpa using e2'.symm
  have hd2:=k2.1 d (by rw[hdy];exact List.getElem_mem _)
  have hstep:num (xs.drop j)=d+10000 * num (xs.drop (j+1)):=by
   rw[List.drop_eq_getElem_cons (by omega:j < xs.length),<-hdy];rfl
  obtain⟨A,hA⟩:∃ A,A=num (xs.drop (j+1)):=⟨_,rfl⟩
  rw[<-hA]at j8 j10 hstep
  obtain⟨rv,hrv⟩:∃ rv,rv=A % y:=⟨_,rfl⟩
  rw[<-hrv]at j10
  have hr0:0<=rv:=by rw[hrv];exact Int.emod_nonneg _ (by omega)
  have hr1:rv < y:=by rw[hrv];exact Int.emod_lt_of_pos _ hy0
  have hAr:A=y * (A / y)+rv:=by rw[hrv];exact(Int.mul_ediv_add_emod A y).symm
  obtain⟨zs,z1,z2,z3,z4⟩:=j10.get (by omega)
  obtain⟨a3,cap3,rfl⟩:=z1.slice
  refine uO xZ rfl (Nat.le_refl W.heap.size) ?_
  intro v5 W5 o5 g5 _
  have x5:=World.grownBy.ext g5
  have j9':=j9.ext x5
  (repeat (first|simp -dsimp[go_sem,j9'.cell (i:=0) rfl]|simp -dsimp (disch:=omega)only[gL,gI]))
  refine CQ xZ (by decide) o5 (z1.ext x5) (fun y hy=>by obtain⟨y,_,rfl⟩:=List.mem_map.1 hy;rfl) (by simp;omega) x5.size ?_
  intro v6 W6 o6 g6
  have x6:bK W W6:=x5.trans (World.grownBy.below g6 x5.size fun k hk=>(o5.lt k hk).1)
  have hl6:gA W6 v6 (d::zs):=o6.slAt
  refine cu dS (mZ hl6 (by simp;omega)) ?_
  rintro v7 W7 ⟨t7,hW7,f7⟩
  rw[hW7]at t7 ⊢
  clear hW7
  have f7:=f7 _ (gm.own o6)
  obtain⟨z,hz⟩:∃ z,z=d+10000 * rv:=⟨_,rfl⟩
  have hz0:0<=z:=by omega
  have hz1:z < y * 10000:=by omega
  have hdz:Dg (d::zs):=by
   intro x hx
   rcases List.mem_cons.1 hx with rfl | hx
   ·exact hd2
   ·exact z2.1 x hx
  have n7:cV _ v7 z:=⟨_,t7,wg.trimL hdz,by rw[m7];simp only[num,z3,hz]⟩
  obtain⟨a7,nn7,cap7,rfl⟩:=n7.slice
  have j9'':=j9.ext x6
  have j2':cM W6 w.heap.size 139 [Value.slice a1 n1 cap1]:=by rw[<-hv'];exact j2.ext x6
  have j4':cM W6 (w.heap.size+1) 139 [Value.slice (some ⟨qb,0,none⟩) xs.length xs.length]:=by rw[<-hqv];exact j4.ext x6
  (repeat (first|simp -dsimp[go_sem,j9''.cell (i:=0) rfl,j9''.frz 0,j2'.cell (i:=0) rfl,j4'.cell (i:=0) rfl]|simp -dsimp (disch:=omega)only[gL,gI]))
  obtain⟨W7,hW7⟩:∃ W7,W6.setCell ⟨w.heap.size+1+1,0,none⟩ (.slice a7 nn7 cap7)=W7:=⟨_,rfl⟩
  have hs7:W6.heap.size=W7.heap.size:=by rw[<-hW7];simp
  have y1:Below w.heap.size w W7:=by rw[<-hW7];exact bK.stB (j1.trans (x6.mono j1.size)) (show w.heap.size<=w.heap.size+1+1 by omega) _
  have y4:cM W7 (w.heap.size+1) 139 [q]:=by rw[<-hW7,hqv];exact j4'.setOther (show w.heap.size+1≠w.heap.size+1+1 by omega) _
  have y6:cM W7 qb 3 (qs.map iv):=by rw[<-hW7];exact(j6.ext x6).setOther (show qb≠w.heap.size+1+1 by omega) _
  have y2:cM W7 w.heap.size 139 [v]:=by rw[<-hW7];exact(j2.ext x6).setOther (show w.heap.size≠w.heap.size+1+1 by omega) _
  have y3:cM W7 w3.heap.size 139 [.slice a2 xs.length cap2]:=by rw[<-hW7];exact(j3.ext x6).setOther (show w3.heap.size≠w.heap.size+1+1 by omega) _
  have y9:cM W7 (w.heap.size+1+1) 139 [.slice a7 nn7 cap7]:=by rw[<-hW7];exact j9''.set1 _
  have yn:cV W7 (.slice a7 nn7 cap7) z:=by rw[<-hW7];exact n7.setBlk j9'' (by simp) 0 _
  have yk:Kf w4.heap.size W W7:=by rw[<-hW7];exact(Kf.ext x6).trans (Kf.setLow _ (show w.heap.size+1+1 < w4.heap.size by omega) _)
  rw[hs7,hW7]
  have b8:=cM.al W7 [.nilFunc] 178
  rw[Kv rfl (b8.cell rfl) (b8.frz 0)]
  obtain⟨W8,hW8⟩:∃ W8,(W7.alloc (Obj.cells #[.nilFunc] 178)).setCell ⟨W7.heap.size,0,none⟩ (.func (.func 147) #[.slice a1 n1 cap1] #[])=W8:=⟨_,rfl⟩
  have x8:bK W7 W8:=by rw[<-hW8];exact((bK.refl W7).al _).st (Nat.le_refl _) _
  have b8':cM W8 W7.heap.size 178 [.func (.func 147) #[.slice a1 n1 cap1] #[]]:=by rw[<-hW8];exact b8.set1 _
  have y4':cM W8 (w.heap.size+1) 139 [.slice (some ⟨qb,0,none⟩) xs.length xs.length]:=by rw[<-hqv];exact y4.ext x8
  rw[hW8]
  (repeat (first|simp -dsimp[go_sem,y4'.cell (i:=0) rfl]|simp -dsimp (disch:=omega)only[gL,gI]))
  rw[hv']at hv
  have hvM:∀ W,Below w.heap.size w W->cV W (.slice a1 n1 cap1) y:=fun W h=>hv.ext h
  have d8:bK W8 W8.drew:=bK.dr (.refl W8)
  refine cu A8 (KC (n:=9999) (fun d=>decide (z < y * ((d:Int)+1))) (by decide) ?_) ?_
  ·intro W' hW' i' hi' pan K hK
   have hx:=(x8.tr d8).tr hW'
   refine Ek pD (by simpa using KD (b8'.ext (d8.tr hW')) (y9.ext hx) (hvM _ (y1.trans (hx.mono y1.size))) (yn.ext hx) hyM hy (by omega) hi') ?_
   rintro _ W'' ⟨rfl,h'⟩
   exact hK _ h'
  rintro _ W9 ⟨x9,k,hk,rfl,hk1,hk2⟩
  obtain⟨hkz,hkle⟩:=F3 hy0 hz0 hz1 hk hk1 hk2
  have x9':bK W8 W9:=d8.tr x9
  have x79:bK W7 W9:=x8.tr x9'
  have q9:=y6.ext x79
  have hqc:W9.cell? ⟨qb,j,none⟩=some (iv (qs[j]'(by omega))):=q9.cell (by simp)
  have v9:=y4'.ext x9'
  have w9a:=y9.ext x79
  have w9b:=b8'.ext x9'
  (repeat (first|simp -dsimp[go_sem,v9.cell (i:=0) rfl,hqc,q9.frz j,w9a.cell (i:=0) rfl,w9b.cell (i:=0) rfl]|simp -dsimp (disch:=omega)only[gL,gI]))
  obtain⟨W10,hW10⟩:∃ W10,W9.setCell ⟨qb,j,none⟩ (.int .i64 k)=W10:=⟨_,rfl⟩
  have z1':Below w.heap.size w W10:=by rw[<-hW10];exact bK.stB (y1.trans (x79.mono y1.size)) (show w.heap.size<=qb by omega) _
  have l79:=x79.size
  have ly:=y3.lt
  have z2':cM W10 w.heap.size 139 [v]:=by rw[<-hW10];exact(y2.ext x79).setOther (show w.heap.size≠qb by omega) _
  have z3':cM W10 w3.heap.size 139 [.slice a2 xs.length cap2]:=by rw[<-hW10];exact(y3.ext x79).setOther (show w3.heap.size≠qb by omega) _
  have z4':cM W10 (w.heap.size+1) 139 [.slice (some ⟨qb,0,none⟩) xs.length xs.length]:=by rw[<-hW10];exact v9.setOther (show w.heap.size+1≠qb by omega) _
  have z6':cM W10 qb 3 ((qs.set j k).map iv):=by rw[<-hW10,List.map_set];exact q9.set j _
  have z9':cM W10 (w.heap.size+1+1) 139 [.slice a7 nn7 cap7]:=by rw[<-hW10];exact(y9.ext x79).setOther (show w.heap.size+1+1≠qb by omega) _
  have z8':cM W10 W7.heap.size 178 [.func (.func 147) #[.slice a1 n1 cap1] #[]]:=by rw[<-hW10];exact(b8'.ext x9').setOther (show W7.heap.size≠qb by omega) _
  have zk:Kf w4.heap.size W W10:=by rw[<-hW10];exact(yk.trans (Kf.ext x79)).trans (Kf.setLow _ (show qb < w4.heap.size by omega) _)
  have zn:cV W10 (.slice a7 nn7 cap7) z:=by
   rw[<-hW10]
   obtain⟨ls,l1,l2,l3⟩:=yn.ext x79
   refine⟨ls,eI.set l1 _ ?_,l2,l3⟩
   intro b o c n hb
   have h1:W.heap.size<=b:=f7 _ _ _ hb
   have h2:=hlt;have h3:=e4.size
   show b≠qb
   omega
  have hqc':W10.cell? ⟨qb,j,none⟩=some (iv k):=z6'.cell (by rw[List.getElem?_map,List.getElem?_set_self (by omega)];rfl)
  rw[hW10]
  (repeat (first|simp -dsimp[go_sem,z4'.cell (i:=0) rfl,z9'.cell (i:=0) rfl,z8'.cell (i:=0) rfl,hqc']|simp -dsimp (disch:=omega)only[gL,gI]))
  have d10:bK W10 W10.drew:=bK.dr (.refl W10)
  refine NB (k:=(k:Int)) (hvM _ (z1'.trans (d10.mono z1'.size))) hyM (by omega) (by omega) ?_
  intro v11 W11 n11 x11 f11
  have x11':bK W10 W11:=d10.tr x11
  have z9'':=z9'.ext x11'
  (repeat (first|simp -dsimp[go_sem,z9''.cell (i:=0) rfl]|simp -dsimp (disch:=omega)only[gL,gI]))
  refine cu gj (yM (zn.ext x11') n11 (by omega) hkle) ?_
  rintro v12 W12 ⟨n12,x12,f12⟩
  obtain⟨a12,nn12,cap12,rfl⟩:=n12.slice
  have x12':=x11'.tr x12
  have z9f:=z9'.ext x12'
  have Vu:=x12'.size
  have lz:=z3'.lt
  have l11:=x11'.size
  have lq:=z6'.lt
  (repeat (first|simp -dsimp[go_sem,z9f.cell (i:=0) rfl,z9f.frz 0]|simp -dsimp (disch:=omega)only[gL,gI]))
  refine⟨?_,(zk.trans (Kf.ext x12')).trans (Kf.setLow _ (show w.heap.size+1+1 < w4.heap.size by omega) _)⟩
  rw[hJ]
  have hji':xs.length - (i+1)=j:=by omega
  have hA':num (xs.drop j)=y * (10000 * (A / y))+z:=by rw[hstep,hz];grind
  refine⟨bK.stB (z1'.trans (x12'.mono z1'.size)) (show w.heap.size<=w.heap.size+1+1 by omega) _,(z2'.ext x12').setOther (show w.heap.size≠w.heap.size+1+1 by omega) _,(z3'.ext x12').setOther (show w3.heap.size≠w.heap.size+1+1 by omega) _,?_,⟨qs.set j k,by simpa using j5,(z6'.ext x12').setOther (show qb≠w.heap.size+1+1 by omega) _,?_,?_⟩,_,z9f.set1 _,?_,f12.mono (by omega)⟩
  ·rw[hqv];exact(z4'.ext x12').setOther (show w.heap.size+1≠w.heap.size+1+1 by omega) _
  ·intro x hx
   rcases List.mem_or_eq_of_mem_set hx with h | h
   ·exact j7 x h
   ·omega
  ·rw[hji',hA',List.drop_eq_getElem_cons (by simp;omega)]
   simp only[num,List.getElem_set_self,List.drop_set_of_lt (show j < j+1 by omega),j8]
   rw[Int.add_comm (y * _),Int.add_mul_ediv_left _ _ (by omega),hkz]
  ·rw[hji',hA',Int.add_comm (y * _),Int.add_mul_emod_self_left]
   have:z % y=z - y * k:=by rw[hkz];exact Int.emod_def z y
   rw[this]
   exact n12.setBlk z9f (by simp) 0 _
 ·rintro D W hD hWD hjw
  rw[hJ]at hjw
  obtain⟨j1,j2,j3,j4,⟨qs,j5,j6,j7,j8⟩,r,j9,j10,j11⟩:=hjw
  rw[gU,Nat.sub_self,List.drop_zero,List.drop_zero]at j8
  rw[gU,Nat.sub_self,List.drop_zero]at j10
  obtain⟨a3,nn3,cap3,rfl⟩:=j10.slice
  rw[hqv]at j4
  (repeat (first|simp -dsimp[go_sem,j4.cell (i:=0) rfl,j9.cell (i:=0) rfl]|simp -dsimp (disch:=omega)only[gL,gI]))
  have d1:bK W W.drew:=bK.dr (.refl W)
  have jq:gA W (.slice (some ⟨qb,0,none⟩) xs.length xs.length) qs:=j6.slAt (by simp[j5])
  refine cu dS (mZ (jq.ext d1) (by omega)) ?_
  rintro v2 W2 ⟨t2,hW2,_⟩
  rw[hW2]at t2 ⊢
  clear hW2
  obtain⟨a4,cap4,rfl⟩:=t2.slice
  have i4:=j4.ext d1
  have i9:=j9.ext d1
  (repeat (first|simp -dsimp[go_sem,i4.cell (i:=0) rfl,i4.frz 0,i9.cell (i:=0) rfl,i9.frz 0,j9.cell (i:=0) rfl,j9.frz 0]|simp -dsimp (disch:=omega)only[gL,gI]))
  have t2':gA W (.slice a4 (trimL qs).length cap4) (trimL qs):=t2
  have s9:=j9.setOther (p:=⟨w.heap.size+1,0,none⟩) (show w.heap.size+1+1≠w.heap.size+1 by omega) (.slice a4 (trimL qs).length cap4)
  have s4:=(j4.set1 (.slice a4 (trimL qs).length cap4)).setOther (p:=⟨w.heap.size+1+1,0,none⟩) (show w.heap.size+1≠w.heap.size+1+1 by omega) (.slice a3 nn3 cap3)
  have s5:=s9.set1 (.slice a3 nn3 cap3)
  have b1:=bK.stB (bK.stB j1 (show w.heap.size<=(⟨w.heap.size+1,0,none⟩:Addr).block from Nat.le_succ _) (.slice a4 (trimL qs).length cap4)) (show w.heap.size<=(⟨w.heap.size+1+1,0,none⟩:Addr).block from by show w.heap.size<=w.heap.size+1+1;omega) (.slice a3 nn3 cap3)
  have nq:=(t2'.setBlk j4 (by simp) 0 (.slice a4 (trimL qs).length cap4)).setBlk s9 (by simp) 0 (.slice a3 nn3 cap3)
  have nr:=(j10.setBlk j4 (by simp) 0 (.slice a4 (trimL qs).length cap4)).setBlk s9 (by simp) 0 (.slice a3 nn3 cap3)
  have hD':((W.setCell ⟨w.heap.size+1,0,none⟩ (.slice a4 (trimL qs).length cap4)).setCell ⟨w.heap.size+1+1,0,none⟩ (.slice a3 nn3 cap3)).heap[D]?=some (.deferred (some [])):=
   (heap_setCell_other _ _ D _ (show D≠w.heap.size+1+1 by omega)).trans ((heap_setCell_other _ _ D _ (show D≠w.heap.size+1 by omega)).trans hWD)
  obtain⟨V,hV⟩:∃ V,(W.setCell ⟨w.heap.size+1,0,none⟩ (.slice a4 (trimL qs).length cap4)).setCell ⟨w.heap.size+1+1,0,none⟩ (.slice a3 nn3 cap3)=V:=⟨_,rfl⟩
  rw[hV]at s4 s5 b1 nq nr hD' ⊢
  have dV:bK V V.drew:=bK.dr (.refl V)
  have hDd:V.drew.heap[D]?=some (.deferred (some [])):=hD'
  refine Tk.mk hDd fun w' hb' hk'=>?_
  have f4:=(s4.ext dV).tk hDd hk'
  have f5:=(s5.ext dV).tk hDd hk'
  (repeat (first|simp -dsimp[go_sem,f4.cell (i:=0) rfl,f5.cell (i:=0) rfl]|simp -dsimp (disch:=omega)only[gL,gI]))
  obtain⟨rs,r1,r2,r3⟩:=nr
  refine bQ.mk ⟨(b1.trans (dV.mono b1.size)).trans (hb'.mono (by omega)),_,_,rfl,⟨trimL qs,(eI.ext nq dV).tk hDd hk',wg.trimL j7,by rw[m7,j8]⟩,⟨rs,(eI.ext r1 dV).tk hDd hk',r2,r3⟩⟩
 ·exact fun _ _ _ _ h=>h.elim
end Go.Proofs.YtnkmbjedcjcccaaGreatDoor
