/-
  Contracts and plain lemmas. By an AI agent.
-/
import Derived.Test.YtnkmbjedcjcccaaGreatDoorAlF
set_option linter.all false
namespace Go.Proofs.YtnkmbjedcjcccaaGreatDoor
open Tryz
open Go Go.Eng Go.Proofs Go.Num Go.RowKit
set_option maxRecDepth 100000
section
variable{w:World}{K:Value->World->Prop}{KP:Value->Prop}{c wi:Bool}
variable{a1 a2 a3 a10 a11 a12 b1 b2 b3 b10 b11 b12:Int}{a4 a5 a6 a7 a8 a9 a13 a14 b4 b5 b6 b7 b8 b9 b13 b14:List UInt8}{a15 b15:Bool}
theorem Mn{Q:Prop}(h:¬(a1=b1/\a2=b2/\a3=b3/\a4=b4/\a5=b5/\a6=b6/\a7=b7/\a8=b8/\a9=b9/\a10=b10/\a11=b11/\a12=b12/\a13=b13/\a14=b14/\a15=b15))(k1:¬a1=b1->Q)(k2:a1=b1->¬a2=b2->Q)(k3:a1=b1->a2=b2->¬a3=b3->Q)(k4:a1=b1->a2=b2->a3=b3->(a4 == b4)=false->Q)(k5:a1=b1->a2=b2->a3=b3->a4=b4->(a5 == b5)=false->Q)(k6:a1=b1->a2=b2->a3=b3->a4=b4->a5=b5->(a6 == b6)=false->Q)(k7:a1=b1->a2=b2->a3=b3->a4=b4->a5=b5->a6=b6->(a7 == b7)=false->Q)(k8:a1=b1->a2=b2->a3=b3->a4=b4->a5=b5->a6=b6->a7=b7->(a8 == b8)=false->Q)(k9:a1=b1->a2=b2->a3=b3->a4=b4->a5=b5->a6=b6->a7=b7->a8=b8->(a9 == b9)=false->Q)(k10:a1=b1->a2=b2->a3=b3->a4=b4->a5=b5->a6=b6->a7=b7->a8=b8->a9=b9->¬a10=b10->Q)(k11:a1=b1->a2=b2->a3=b3->a4=b4->a5=b5->a6=b6->a7=b7->a8=b8->a9=b9->a10=b10->¬a11=b11->Q)(k12:a1=b1->a2=b2->a3=b3->a4=b4->a5=b5->a6=b6->a7=b7->a8=b8->a9=b9->a10=b10->a11=b11->¬a12=b12->Q)(k13:a1=b1->a2=b2->a3=b3->a4=b4->a5=b5->a6=b6->a7=b7->a8=b8->a9=b9->a10=b10->a11=b11->a12=b12->(a13 == b13)=false->Q)(k14:a1=b1->a2=b2->a3=b3->a4=b4->a5=b5->a6=b6->a7=b7->a8=b8->a9=b9->a10=b10->a11=b11->a12=b12->a13=b13->(a14 == b14)=false->Q)(k15:a1=b1->a2=b2->a3=b3->a4=b4->a5=b5->a6=b6->a7=b7->a8=b8->a9=b9->a10=b10->a11=b11->a12=b12->a13=b13->a14=b14->¬a15=b15->Q):Q:=by
 by_cases h1:a1=b1
 rotate_left
 ·exact k1 (by simpa using h1)
 by_cases h2:a2=b2
 rotate_left
 ·exact k2 h1 (by simpa using h2)
 by_cases h3:a3=b3
 rotate_left
 ·exact k3 h1 h2 (by simpa using h3)
 by_cases h4:a4=b4
 rotate_left
 ·exact k4 h1 h2 h3 (by simpa using h4)
 by_cases h5:a5=b5
 rotate_left
 ·exact k5 h1 h2 h3 h4 (by simpa using h5)
 by_cases h6:a6=b6
 rotate_left
 ·exact k6 h1 h2 h3 h4 h5 (by simpa using h6)
 by_cases h7:a7=b7
 rotate_left
 ·exact k7 h1 h2 h3 h4 h5 h6 (by simpa using h7)
 by_cases h8:a8=b8
 rotate_left
 ·exact k8 h1 h2 h3 h4 h5 h6 h7 (by simpa using h8)
 by_cases h9:a9=b9
 rotate_left
 ·exact k9 h1 h2 h3 h4 h5 h6 h7 h8 (by simpa using h9)
 by_cases h10:a10=b10
 rotate_left
 ·exact k10 h1 h2 h3 h4 h5 h6 h7 h8 h9 (by simpa using h10)
 by_cases h11:a11=b11
 rotate_left
 ·exact k11 h1 h2 h3 h4 h5 h6 h7 h8 h9 h10 (by simpa using h11)
 by_cases h12:a12=b12
 rotate_left
 ·exact k12 h1 h2 h3 h4 h5 h6 h7 h8 h9 h10 h11 (by simpa using h12)
 by_cases h13:a13=b13
 rotate_left
 ·exact k13 h1 h2 h3 h4 h5 h6 h7 h8 h9 h10 h11 h12 (by simpa using h13)
 by_cases h14:a14=b14
 rotate_left
 ·exact k14 h1 h2 h3 h4 h5 h6 h7 h8 h9 h10 h11 h12 h13 (by simpa using h14)
 by_cases h15:a15=b15
 rotate_left
 ·exact k15 h1 h2 h3 h4 h5 h6 h7 h8 h9 h10 h11 h12 h13 h14 (by simpa using h15)
 exact absurd ⟨h1,h2,h3,h4,h5,h6,h7,h8,h9,h10,h11,h12,h13,h14,h15⟩ h
theorem E4{op:BinOp}{c:Bool}{xs ys:Array Value}{w:World}:(AV op gM c (.agg xs) (.agg ys)).run prog w=.ok () w:=Hc (by kernel_rfl)
set_option maxHeartbeats 4000000 in
theorem Q8(h:¬(a1=b1/\a2=b2/\a3=b3/\a4=b4/\a5=b5/\a6=b6/\a7=b7/\a8=b8/\a9=b9/\a10=b10/\a11=b11/\a12=b12/\a13=b13/\a14=b14/\a15=b15))(hk:KP (.bool true)):Dv prog wi (bn .neq gM c (.agg #[.int .i64 a1,.int .i64 a2,.int .i64 a3,bh a4,bh a5,bh a6,bh a7,bh a8,bh a9,.int .i64 a10,.int .i64 a11,.int .i64 a12,bh a13,bh a14,.bool a15]) (.agg #[.int .i64 b1,.int .i64 b2,.int .i64 b3,bh b4,bh b5,bh b6,bh b7,bh b8,bh b9,.int .i64 b10,.int .i64 b11,.int .i64 b12,bh b13,bh b14,.bool b15])) w KP:=by
 refine Mn h (fun q=>?_) (fun e1 q=>?_) (fun e1 e2 q=>?_) (fun e1 e2 e3 q=>?_) (fun e1 e2 e3 e4 q=>?_) (fun e1 e2 e3 e4 e5 q=>?_) (fun e1 e2 e3 e4 e5 e6 q=>?_) (fun e1 e2 e3 e4 e5 e6 e7 q=>?_) (fun e1 e2 e3 e4 e5 e6 e7 e8 q=>?_) (fun e1 e2 e3 e4 e5 e6 e7 e8 e9 q=>?_) (fun e1 e2 e3 e4 e5 e6 e7 e8 e9 e10 q=>?_) (fun e1 e2 e3 e4 e5 e6 e7 e8 e9 e10 e11 q=>?_) (fun e1 e2 e3 e4 e5 e6 e7 e8 e9 e10 e11 e12 q=>?_) (fun e1 e2 e3 e4 e5 e6 e7 e8 e9 e10 e11 e12 e13 q=>?_) (fun e1 e2 e3 e4 e5 e6 e7 e8 e9 e10 e11 e12 e13 e14 q=>?_)
 ·cases wi <;> (repeat (first|simp -dsimp[go_sem,E4,q]|simp -dsimp (disch:=omega)only[gL,gI])) <;> exact hk
 ·subst_vars;cases wi <;> (repeat (first|simp -dsimp[go_sem,E4,q]|simp -dsimp (disch:=omega)only[gL,gI])) <;> exact hk
 ·subst_vars;cases wi <;> (repeat (first|simp -dsimp[go_sem,E4,q]|simp -dsimp (disch:=omega)only[gL,gI])) <;> exact hk
 ·subst_vars;cases wi <;> (repeat (first|simp -dsimp[go_sem,E4,q]|simp -dsimp (disch:=omega)only[gL,gI])) <;> exact hk
 ·subst_vars;cases wi <;> (repeat (first|simp -dsimp[go_sem,E4,q]|simp -dsimp (disch:=omega)only[gL,gI])) <;> exact hk
 ·subst_vars;cases wi <;> (repeat (first|simp -dsimp[go_sem,E4,q]|simp -dsimp (disch:=omega)only[gL,gI])) <;> exact hk
 ·subst_vars;cases wi <;> (repeat (first|simp -dsimp[go_sem,E4,q]|simp -dsimp (disch:=omega)only[gL,gI])) <;> exact hk
 ·subst_vars;cases wi <;> (repeat (first|simp -dsimp[go_sem,E4,q]|simp -dsimp (disch:=omega)only[gL,gI])) <;> exact hk
 ·subst_vars;cases wi <;> (repeat (first|simp -dsimp[go_sem,E4,q]|simp -dsimp (disch:=omega)only[gL,gI])) <;> exact hk
 ·subst_vars;cases wi <;> (repeat (first|simp -dsimp[go_sem,E4,q]|simp -dsimp (disch:=omega)only[gL,gI])) <;> exact hk
 ·subst_vars;cases wi <;> (repeat (first|simp -dsimp[go_sem,E4,q]|simp -dsimp (disch:=omega)only[gL,gI])) <;> exact hk
 ·subst_vars;cases wi <;> (repeat (first|simp -dsimp[go_sem,E4,q]|simp -dsimp (disch:=omega)only[gL,gI])) <;> exact hk
 ·subst_vars;cases wi <;> (repeat (first|simp -dsimp[go_sem,E4,q]|simp -dsimp (disch:=omega)only[gL,gI])) <;> exact hk
 ·subst_vars;cases wi <;> (repeat (first|simp -dsimp[go_sem,E4,q]|simp -dsimp (disch:=omega)only[gL,gI])) <;> exact hk
 ·subst_vars;cases a15 <;> cases b15 <;> first | exact absurd rfl q | (cases wi <;> (repeat (first|simp -dsimp[go_sem,E4]|simp -dsimp (disch:=omega)only[gL,gI])) <;> exact hk)
set_option maxHeartbeats 4000000 in
theorem Q9(hk:KP (.bool false)):Dv prog wi (bn .neq gM c (.agg #[.int .i64 a1,.int .i64 a2,.int .i64 a3,bh a4,bh a5,bh a6,bh a7,bh a8,bh a9,.int .i64 a10,.int .i64 a11,.int .i64 a12,bh a13,bh a14,.bool a15]) (.agg #[.int .i64 a1,.int .i64 a2,.int .i64 a3,bh a4,bh a5,bh a6,bh a7,bh a8,bh a9,.int .i64 a10,.int .i64 a11,.int .i64 a12,bh a13,bh a14,.bool a15])) w KP:=by
 cases a15 <;> cases wi <;> (repeat (first|simp -dsimp[go_sem,E4]|simp -dsimp (disch:=omega)only[gL,gI])) <;> exact hk
end
open Go.Alm (Ft Wt Sm VW VA)
theorem Ra{r s:WR}(h:r≠s):¬(r.op=s.op/\r.ve=s.ve/\r.lim=s.lim/\r.m.1=s.m.1/\r.m.2=s.m.2/\r.a.1=s.a.1/\r.a.2=s.a.2/\r.b.1=s.b.1/\r.b.2=s.b.2/\r.st=s.st/\r.th=s.th/\r.sn=s.sn/\r.we.1=s.we.1/\r.we.2=s.we.2/\r.ru=s.ru):=by
 rintro⟨h1,h2,h3,h4,h5,h6,h7,h8,h9,h10,h11,h12,h13,h14,h15⟩
 apply h
 obtain⟨op,ve,lim,⟨m1,m2⟩,⟨a1,a2⟩,⟨b1,b2⟩,st,th,sn,⟨e1,e2⟩,ru⟩:=r
 obtain⟨op',ve',lim',⟨m1',m2'⟩,⟨a1',a2'⟩,⟨b1',b2'⟩,st',th',sn',⟨e1',e2'⟩,ru'⟩:=s
 simp only at *
 subst_vars
 rfl
section
variable{w:World}{KP:Value->Prop}{c wi:Bool}{r s:WR}
theorem Um(h:r≠s)(hk:KP (.bool true)):Dv prog wi (bn .neq gM c (vW r) (vW s)) w KP:=Q8 (Ra h) hk
theorem Uo(hk:KP (.bool false)):Dv prog wi (bn .neq gM c (vW r) (vW r)) w KP:=Q9 hk
end
set_option maxHeartbeats 4000000 in
theorem iC{w0:World}{p:RS}{v:Value}{l:List WR}(hA:Ak w0 p v l):Calls prog 14 #[vA p v] w0 (bQ fun r w'=>bK w0 w'/\r=.bool (wu p l)):=by
 obtain⟨hp,hv,hk,hl⟩:=hA
 by_cases p1:∃ x,p=tx x/\Sm 1 x
 rotate_left
 ·have hno:¬uI p l:=fun⟨B,ws,e,_,h⟩=>p1 ⟨B,e,h.b⟩
  have cc1:=fun {W:World} (_:bK w0 W)=>tg (w0:=W) (.inl rfl) hp p1
  rw[kE hno]
  apply o0
  unfold lP
  have h:=Hp.init [] w0
  refine ep h fun g1 w h=>?_
  refine ck (dy h 0 rfl rfl ?_)
  refine ce h dE (cc1 h.ext) fun w h=>?_
  refine d7 (aR (aR (aR (aR (aQ (co ?_))))))
  exact bQ.mk ⟨h.ext,rfl⟩
 have cc1:=fun {W:World} (_:bK w0 W)=>tf (w0:=W) (.inl rfl) p1
 by_cases p2:l.length<=12
 rotate_left
 ·have hno:¬uI p l:=fun⟨B,ws,e,e2,h⟩=>p2 (by rw[e2,List.length_map];exact h.len)
  rw[kE hno]
  apply o0
  unfold lP
  have h:=Hp.init [] w0
  refine ep h fun g1 w h=>?_
  refine ck (dy h 0 rfl rfl ?_)
  refine ce h dE (cc1 h.ext) fun w h=>?_
  refine ct (ah (ck (ah (Eng.ld1 h 0 rfl rfl (ah (gS (hv.hp h) ?_))))))
  refine ah (eB (by omega) (aw (co ?_)))
  exact bQ.mk ⟨h.ext,rfl⟩
 obtain⟨b,hb⟩:∃ b,wu p l=b:=⟨_,rfl⟩
 rw[hb]
 apply o0
 unfold lP
 have h:=Hp.init [] w0
 refine ep h fun g1 w h=>?_
 refine ck (dy h 0 rfl rfl ?_)
 refine ce h dE (cc1 h.ext) fun w h=>?_
 refine ct (ah (ck (ah (Eng.ld1 h 0 rfl rfl (ah (gS (hv.hp h) ?_))))))
 refine ah (d9 (by omega) (aw (cf ?_)))
 refine jt.mk (fun i W=>∃ j:Nat,j<=l.length/\i=.int .i64 j/\(∀ x∈l.take j,re x)/\Hp [] w0 W [bx g1 jA [bh p.1,bh p.2,v]])
  (fun i _=>match i with | .int _ i'=>l.length - i'.toNat | _=>0) ⟨0,by omega,rfl,by simp,h⟩ ?_
 clear h
 rintro _ W ⟨j,hj,rfl,hall,h⟩
 by_cases hjl:j < l.length
 ·refine Exists.elim (p:=fun x=>l[j]?=some x) ⟨_,List.getElem?_eq_getElem hjl⟩ fun x hx=>?_
  have sx:iY (l.flatMap fW) (j * 15) (fW x):=cZ (f:=fW) (fun _=>rfl) hx
  have hxk:=hk x (List.mem_of_getElem? hx)
  by_cases a:re x
  ·have cc2:∀ {W:World},bK w0 W->Calls prog 47 #[vW x] W (bQ fun r w'=>bK W w'/\r=.bool true):=fun {W} e=>by
    have:=DQ (w0:=W) hxk
    unfold BC at this
    rw[Ck a]at this;exact this
   refine ck (Eng.ld1 h 0 rfl rfl (gS (hv.hp h) ?_))
   refine cy (by omega) (co (ck (Eng.ld1 h 0 rfl rfl (lU h ‹_› (by omega) fun zb zo zk zv zc=>?_))))
   refine wD h ‹_› ‹_› (by rfl) ?_
   refine ce h ut (cc2 h.ext) fun w h=>?_
   refine ct (cf (cF (by omega) (by omega) ?_))
   refine⟨⟨j+1,by omega,rfl,fun y hy=>?_,h⟩,by show l.length - ((j:Int)+1).toNat < l.length - (j:Int).toNat;omega⟩
   rw[iA hx]at hy
   rcases List.mem_append.1 hy with hy | hy
   ·exact hall y hy
   ·simp at hy;subst hy;exact a
  ·have cc2:∀ {W:World},bK w0 W->Calls prog 47 #[vW x] W (bQ fun r w'=>bK W w'/\r=.bool false):=fun {W} e=>by
    have:=DQ (w0:=W) hxk
    unfold BC at this
    rw[mi a]at this;exact this
   have hb:b=false:=by
    rw[<-hb]
    refine kE fun⟨B,ws,e,e2,h⟩=>a ?_
    have hm:=List.mem_of_getElem? hx
    rw[e2]at hm
    obtain⟨w,hw,rfl⟩:=List.mem_map.1 hm
    exact⟨w,h.ok w hw,rfl⟩
   subst hb
   refine ck (Eng.ld1 h 0 rfl rfl (gS (hv.hp h) ?_))
   refine cy (by omega) (co (ck (Eng.ld1 h 0 rfl rfl (lU h ‹_› (by omega) fun zb zo zk zv zc=>?_))))
   refine wD h ‹_› ‹_› (by rfl) ?_
   refine ce h ut (cc2 h.ext) fun w h=>?_
   refine d7 (co ?_)
   exact bQ.mk ⟨h.ext,rfl⟩
 rw[List.take_of_length_le (by omega)]at hall
 obtain⟨ws,rfl,hok⟩:=Jx hall
 obtain⟨B,rfl,hB⟩:=p1
 have hlm:(ws.map wr).length=ws.length:=List.length_map _
 have hal:∀ w∈ws,Sm 1 w.al:=fun w hw=>(hok w hw).al
 have hv2:dJ w0 15 v ws.length ((ws.map wr).flatMap fW):=by rw[<-hlm];exact hv
 have cc3:=fun {W:World} (e:bK w0 W)=>DU (w0:=W) (p:=tx B) (hv2.ext e) hal (by omega)
 have hs:=wC hal
 have hsr:RB (Alm.fL Alm.al ws):=hs.rb (by omega) (by omega)
 have cc4:=fun {W:World} (_:bK w0 W)=>zj (w:=W) hsr (Sm.rb hB (.inl rfl))
 by_cases q:ig (Alm.fL Alm.al ws) B<=0
 ·have hb:b=true:=by
   rw[<-hb]
   exact mC ⟨B,ws,rfl,rfl,hB,by omega,hok,(jz _ _).1 q⟩
  subst hb
  refine ck (Eng.ld1 h 0 rfl rfl (gS (hv.hp h) ?_))
  refine cD (by omega) (cf ?_)
  replace h:=h.dr
  refine fu h 0 rfl rfl ?_
  refine di (fu h 0 rfl rfl ?_)
  refine ce h pc (cc3 h.ext) fun w h=>?_
  refine cP h 0 rfl rfl ?_
  refine ce h cx (cc4 h.ext) fun w h=>?_
  refine oK (by omega) ?_
  exact bQ.mk ⟨h.ext,rfl⟩
 ·have hb:b=false:=by
   rw[<-hb]
   refine kE fun⟨B',ws',e,e2,h⟩=>q ((jz _ _).2 (by
    obtain rfl:=eZ e
    obtain rfl:=tj e2
    exact h.sp))
  subst hb
  refine ck (Eng.ld1 h 0 rfl rfl (gS (hv.hp h) ?_))
  refine cD (by omega) (cf ?_)
  replace h:=h.dr
  refine fu h 0 rfl rfl ?_
  refine di (fu h 0 rfl rfl ?_)
  refine ce h pc (cc3 h.ext) fun w h=>?_
  refine cP h 0 rfl rfl ?_
  refine ce h cx (cc4 h.ext) fun w h=>?_
  refine wU (by omega) ?_
  exact bQ.mk ⟨h.ext,rfl⟩
open Classical in
noncomputable def HP(p q:RS)(l k:List WR):Bool:=decide (p=q/\l=k)
theorem BP{p:RS}{l:List WR}:HP p p l l=true:=by unfold HP;simp
theorem BQ{p q:RS}{l k:List WR}(h:¬(p=q/\l=k)):HP p q l k=false:=by unfold HP;simp only[decide_eq_false_iff_not];exact h
theorem Rb{p q:RS}(h:p=q):(p.1 == q.1 && p.2 == q.2)=true:=by subst h;simp
theorem Rd{p q:RS}(h:¬p=q):(p.1 == q.1 && p.2 == q.2)=false:=by
 refine Bool.eq_false_iff.2 fun hc=>h ?_
 rw[Bool.and_eq_true,beq_iff_eq,beq_iff_eq]at hc
 exact Prod.ext hc.1 hc.2
theorem D5{α:Type}{l k:List α}{j:Nat}{a b:α}(h:l.take j=k.take j)(ha:l[j]?=some a)(hb:k[j]?=some b)(hab:a=b):l.take (j+1)=k.take (j+1):=by
 rw[iA ha,iA hb,h,hab]
section
variable{w0:World}{p q:RS}{v u:Value}{l k:List WR}(hA:Ak w0 p v l)(hB:Ak w0 q u k)
include hA hB
open Classical in
set_option maxHeartbeats 4000000 in
theorem Re:Calls prog 50 #[v,u] w0 (bQ fun r w'=>bK w0 w'/\r=.bool (decide (l=k))):=by
 obtain⟨hp,hv,hk,hl⟩:=hA
 obtain⟨hq,hu,hku,hlu⟩:=hB
 by_cases hlen:l.length=k.length
 rotate_left
 ·have hno:¬l=k:=fun h=>hlen (by rw[h])
  rw[decide_eq_false hno]
  apply gC
  unfold eC
  have h:=Hp.init [] w0
  refine gS (hv.hp h) ?_
  refine gS (hu.hp h) ?_
  refine gi (by omega) (co ?_)
  exact bQ.mk ⟨h.ext,rfl⟩
 obtain⟨b,hb⟩:∃ b,decide (l=k)=b:=⟨_,rfl⟩
 rw[hb]
 apply gC
 unfold eC
 have h:=Hp.init [] w0
 refine gS (hv.hp h) ?_
 refine gS (hu.hp h) ?_
 refine cE (by omega) (cf (gS (hv.hp h) ?_))
 refine jt.mk (fun i W=>∃ j:Nat,j<=l.length/\i=.int .i64 j/\l.take j=k.take j/\Hp [] w0 W [])
  (fun i _=>match i with | .int _ i'=>l.length - i'.toNat | _=>0) ⟨0,by omega,rfl,by simp,h⟩ ?_
 clear h
 rintro _ W ⟨j,hj,rfl,hall,h⟩
 by_cases hjl:j < l.length
 ·refine Exists.elim (p:=fun x=>l[j]?=some x) ⟨_,List.getElem?_eq_getElem hjl⟩ fun x hx=>?_
  refine Exists.elim (p:=fun x=>k[j]?=some x) ⟨_,List.getElem?_eq_getElem (by omega)⟩ fun y hy=>?_
  have sx:iY (l.flatMap fW) (j * 15) (fW x):=cZ (f:=fW) (fun _=>rfl) hx
  have sy:iY (k.flatMap fW) (j * 15) (fW y):=cZ (f:=fW) (fun _=>rfl) hy
  by_cases hxy:x=y
  ·have ht:=D5 hall hx hy hxy
   subst hxy
   refine cy (by omega) (co ?_)
   replace h:=h.dr
   refine nT h ‹_› (by omega) fun zb zo zk zv zc=>?_
   refine EZ h ‹_› ‹_› (by rfl) ?_
   refine nT h ‹_› (by omega) fun zb zo zk zv zc=>?_
   refine EZ h ‹_› ‹_› (by rfl) ?_
   refine Uo ?_
   refine cf (cF (by omega) (by omega) ?_)
   exact⟨⟨j+1,by omega,rfl,ht,h⟩,by show l.length - ((j:Int)+1).toNat < l.length - (j:Int).toNat;omega⟩
  ·have hb:b=false:=by
    rw[<-hb]
    exact decide_eq_false fun e=>hxy (by subst e;rw[hx]at hy;exact Option.some.inj hy)
   subst hb
   refine cy (by omega) (co ?_)
   replace h:=h.dr
   refine nT h ‹_› (by omega) fun zb zo zk zv zc=>?_
   refine EZ h ‹_› ‹_› (by rfl) ?_
   refine nT h ‹_› (by omega) fun zb zo zk zv zc=>?_
   refine EZ h ‹_› ‹_› (by rfl) ?_
   refine Um hxy ?_
   refine co ?_
   exact bQ.mk ⟨h.ext,rfl⟩
 rw[List.take_of_length_le (by omega),List.take_of_length_le (by omega)]at hall
 have hb:b=true:=by
  rw[<-hb]
  exact decide_eq_true hall
 subst hb
 refine cD (by omega) (cf ?_)
 exact bQ.mk ⟨h.ext,rfl⟩
open Classical in
set_option maxHeartbeats 4000000 in
theorem Cy:Calls prog 15 #[vA p v,vA q u] w0 (bQ fun r w'=>bK w0 w'/\r=.bool (HP p q l k)):=by
 have hse:=fun {W:World} (e:bK w0 W)=>Re (w0:=W) (hA.ext e) (hB.ext e)
 by_cases hpq:p=q
 ·have hr:=Rb hpq
  by_cases hlk:l=k
  ·have cc1:∀ {W:World},bK w0 W->Calls prog 50 #[v,u] W (bQ fun r w'=>bK W w'/\r=.bool true):=fun e=>by
    have:=hse e
    rw[decide_eq_true hlk]at this;exact this
   have e:HP p q l k=true:=by rw[hpq,hlk];exact BP
   rw[e]
   apply qk
   unfold mR
   have h:=Hp.init [] w0
   refine ep h fun g1 w h=>?_
   refine ep h fun g2 w h=>?_
   refine ck (dy h 1 rfl rfl ?_)
   refine ck (dy h 0 rfl rfl ?_)
   refine Rf ‹_› ?_
   refine aP (ck (aP (Eng.ld1 h 1 rfl rfl (aP (ck (aP (Eng.ld1 h 0 rfl rfl (aP (ce h gD (cc1 h.ext) fun w h=>?_)))))))))
   refine aQ ?_
   exact bQ.mk ⟨h.ext,rfl⟩
  ·have cc1:∀ {W:World},bK w0 W->Calls prog 50 #[v,u] W (bQ fun r w'=>bK W w'/\r=.bool false):=fun e=>by
    have:=hse e
    rw[decide_eq_false hlk]at this;exact this
   have e:HP p q l k=false:=BQ fun h=>hlk h.2
   rw[e]
   apply qk
   unfold mR
   have h:=Hp.init [] w0
   refine ep h fun g1 w h=>?_
   refine ep h fun g2 w h=>?_
   refine ck (dy h 1 rfl rfl ?_)
   refine ck (dy h 0 rfl rfl ?_)
   refine Rf ‹_› ?_
   refine aP (ck (aP (Eng.ld1 h 1 rfl rfl (aP (ck (aP (Eng.ld1 h 0 rfl rfl (aP (ce h gD (cc1 h.ext) fun w h=>?_)))))))))
   refine aQ ?_
   exact bQ.mk ⟨h.ext,rfl⟩
 ·have hr:=Rd hpq
  have e:HP p q l k=false:=BQ fun h=>hpq h.1
  rw[e]
  apply qk
  unfold mR
  have h:=Hp.init [] w0
  refine ep h fun g1 w h=>?_
  refine ep h fun g2 w h=>?_
  refine ck (dy h 1 rfl rfl ?_)
  refine ck (dy h 0 rfl rfl ?_)
  refine Tn ‹_› ?_
  refine aK (aK (aK (aK (aK (aw ?_)))))
  exact bQ.mk ⟨h.ext,rfl⟩
set_option maxHeartbeats 4000000 in
theorem vj:Calls prog 16 #[vA p v,vA q u] w0 (bQ fun r w'=>bK w0 w'/\r=.bool (HP p q l k)):=by
 obtain⟨hp,hv,hk,hl⟩:=hA
 obtain⟨hq,hu,hku,hlu⟩:=hB
 by_cases hpq:p=q
 rotate_left
 ·have hr:=Rd hpq
  have e:HP p q l k=false:=BQ fun h=>hpq h.1
  rw[e]
  apply qo
  unfold mS
  have h:=Hp.init [] w0
  refine ep h fun g1 w h=>?_
  refine ep h fun g2 w h=>?_
  refine ck (dy h 1 rfl rfl ?_)
  refine ck (dy h 0 rfl rfl ?_)
  refine FE ‹_› ?_
  refine aR (aR (aR (aR (aR (aR (aR (aQ (co ?_))))))))
  exact bQ.mk ⟨h.ext,rfl⟩
 have hr:=Rb hpq
 by_cases hlen:l.length=k.length
 rotate_left
 ·have e:HP p q l k=false:=BQ fun h=>hlen (by rw[h.2])
  rw[e]
  apply qo
  unfold mS
  have h:=Hp.init [] w0
  refine ep h fun g1 w h=>?_
  refine ep h fun g2 w h=>?_
  refine ck (dy h 1 rfl rfl ?_)
  refine ck (dy h 0 rfl rfl ?_)
  refine HQ ‹_› ?_
  refine ah (ck (ah (Eng.ld1 h 1 rfl rfl (ah (gS (hv.hp h) ?_)))))
  refine ah (ck (ah (Eng.ld1 h 0 rfl rfl (ah (gS (hu.hp h) ?_)))))
  refine ah (gi (by omega) (aw (co ?_)))
  exact bQ.mk ⟨h.ext,rfl⟩
 obtain⟨b,hb⟩:∃ b,HP p q l k=b:=⟨_,rfl⟩
 rw[hb]
 apply qo
 unfold mS
 have h:=Hp.init [] w0
 refine ep h fun g1 w h=>?_
 refine ep h fun g2 w h=>?_
 refine ck (dy h 1 rfl rfl ?_)
 refine ck (dy h 0 rfl rfl ?_)
 refine HQ ‹_› ?_
 refine ah (ck (ah (Eng.ld1 h 1 rfl rfl (ah (gS (hv.hp h) ?_)))))
 refine ah (ck (ah (Eng.ld1 h 0 rfl rfl (ah (gS (hu.hp h) ?_)))))
 refine ah (cE (by omega) (aw (cf ?_)))
 refine jt.mk (fun i W=>∃ j:Nat,j<=l.length/\i=.int .i64 j/\l.take j=k.take j/\Hp [] w0 W [bx g2 jA [bh q.1,bh q.2,u],bx g1 jA [bh p.1,bh p.2,v]])
  (fun i _=>match i with | .int _ i'=>l.length - i'.toNat | _=>0) ⟨0,by omega,rfl,by simp,h⟩ ?_
 clear h
 rintro _ W ⟨j,hj,rfl,hall,h⟩
 by_cases hjl:j < l.length
 ·refine Exists.elim (p:=fun x=>l[j]?=some x) ⟨_,List.getElem?_eq_getElem hjl⟩ fun x hx=>?_
  refine Exists.elim (p:=fun x=>k[j]?=some x) ⟨_,List.getElem?_eq_getElem (by omega)⟩ fun y hy=>?_
  have sx:iY (l.flatMap fW) (j * 15) (fW x):=cZ (f:=fW) (fun _=>rfl) hx
  have sy:iY (k.flatMap fW) (j * 15) (fW y):=cZ (f:=fW) (fun _=>rfl) hy
  by_cases hxy:x=y
  ·have ht:=D5 hall hx hy hxy
   subst hxy
   refine ck (Eng.ld1 h 1 rfl rfl (gS (hv.hp h) ?_))
   refine cy (by omega) (co ?_)
   replace h:=h.dr
   refine di (iX h 1 rfl rfl (nT h ‹_› (by omega) fun zb zo zk zv zc=>?_))
   refine EZ h ‹_› ‹_› (by rfl) ?_
   refine di (iX h 0 rfl rfl (nT h ‹_› (by omega) fun zb zo zk zv zc=>?_))
   refine EZ h ‹_› ‹_› (by rfl) ?_
   refine Uo ?_
   refine cf (cF (by omega) (by omega) ?_)
   exact⟨⟨j+1,by omega,rfl,ht,h⟩,by show l.length - ((j:Int)+1).toNat < l.length - (j:Int).toNat;omega⟩
  ·have hb:b=false:=by
    rw[<-hb]
    exact BQ fun e=>hxy (by have e2:=e.2;subst e2;rw[hx]at hy;exact Option.some.inj hy)
   subst hb
   refine ck (Eng.ld1 h 1 rfl rfl (gS (hv.hp h) ?_))
   refine cy (by omega) (co ?_)
   replace h:=h.dr
   refine di (iX h 1 rfl rfl (nT h ‹_› (by omega) fun zb zo zk zv zc=>?_))
   refine EZ h ‹_› ‹_› (by rfl) ?_
   refine di (iX h 0 rfl rfl (nT h ‹_› (by omega) fun zb zo zk zv zc=>?_))
   refine EZ h ‹_› ‹_› (by rfl) ?_
   refine Um hxy ?_
   refine co ?_
   exact bQ.mk ⟨h.ext,rfl⟩
 rw[List.take_of_length_le (by omega),List.take_of_length_le (by omega)]at hall
 have hb:b=true:=by
  rw[<-hb,hpq,hall]
  exact BP
 subst hb
 refine ck (Eng.ld1 h 1 rfl rfl (gS (hv.hp h) ?_))
 refine cD (by omega) (cf ?_)
 exact bQ.mk ⟨h.ext,rfl⟩
end
section
variable{P:Program}{t:TypeId}{K:Value->World->Prop}{KP:Value->Prop}{w:World}{v:Value}{g o:Nat}
theorem Mp[One P t](h:w.cell? ⟨g,o,none⟩=some v)(hk:K v w):Ld P t (pr g o) w K:=oH (rK h) hk
end
abbrev Nq:TypeId:=93
theorem Cz:∀ l:List WR,((l.flatMap fW).all fun x=>x.oneCell')=true
 | []=>rfl
 | r::l=>by
  rw[List.flatMap_cons,List.all_append,Cz l]
  rfl
abbrev J4(p:RS)(v:Value)(b:Bool):Value:=if b then .tuple #[vA p v,.int .i64 0] else .tuple #[vA ([],[]) (.slice none 0 0),.int .i64 280]
theorem CA{w0:World}{g:Nat}{p:RS}{v:Value}{l:List WR}(hE:En w0)(hA:Ak w0 p v l)(hg:cM w0 g Nq [bh p.1,bh p.2,v]):Calls prog 51 #[pr g 0] w0 (bQ fun r w'=>bK w0 w'/\r=J4 p v (wu p l)):=by
 have hV:=fun {W:World} (e:bK w0 W)=>kF (w0:=W) (hE.ext e) (hA.ext e)
 obtain⟨a,n,m,rfl,_,_⟩:=hA.hv.key
 cases hb:wu p l with
 | false=>
  rw[hb]at hV
  have cc1:=@hV
  apply oA
  unfold kL
  have h:=Hp.init [] w0
  refine du h fun g1 w h=>?_
  refine tH ?_
  refine ck (uJ h ‹_› (by rfl) ?_)
  refine ce h dZ (cc1 h.ext) fun w h=>?_
  refine d7 (co (u7 PC.nil (by rfl) ?_))
  refine de h 0 rfl rfl rfl rfl fun w h=>?_
  refine mj h 0 rfl rfl ?_
  dsimp only[List.set]at h
  exact bQ.mk ⟨h.ext,rfl⟩
 | true=>
  rw[hb]at hV
  have cc1:=@hV
  apply oA
  unfold kL
  have h:=Hp.init [] w0
  refine du h fun g1 w h=>?_
  refine tH ?_
  refine ck (uJ h ‹_› (by rfl) ?_)
  refine ce h dZ (cc1 h.ext) fun w h=>?_
  refine ct (cf (tH ?_))
  refine ck (uJ h ‹_› (by rfl) ?_)
  refine de h 0 rfl rfl rfl rfl fun w h=>?_
  refine mj h 0 rfl rfl ?_
  dsimp only[List.set]at h
  exact bQ.mk ⟨h.ext,rfl⟩
theorem FD{w:World}{p:RS}(hp:yG p):Ak w p (.slice none 0 0) []:=⟨hp,⟨rfl,.inl ⟨rfl,rfl⟩⟩,by simp,by simp⟩
theorem zJ{w0:World}{p:RS}(hE:En w0)(hp:yG p):Calls prog 17 #[vR p] w0 (bQ fun r w'=>bK w0 w'/\r=J4 p (.slice none 0 0) (wu p [])):=by
 have hE2:=hE
 apply C0
 unfold vK
 have h:=Hp.init [] w0
 refine ep h fun g1 w h=>?_
 refine du h fun g2 w h=>?_
 refine dy h 1 rfl rfl ?_
 refine u7 (PC.cons (by rfl) PC.nil) (by rfl) ?_
 refine u7 (PC.cons (by rfl) PC.nil) (by rfl) ?_
 refine ep h fun g3 w h=>?_
 have cc1:=fun {W:World} (e:bK w W)=>CA (w0:=W) (g:=g3) (p:=p) (v:=.slice none 0 0) (hE.ext (h.ext.tr e)) (FD hp) ((h.get (i:=0) rfl:cM _ _ _ _).ext e)
 cases hb:wu p [] with
 | false=>
  rw[hb]at cc1
  refine ce h gX (cc1 (.refl _)) fun w h=>?_
  refine gN (de h 1 rfl rfl rfl rfl fun w h=>?_)
  refine mj h 1 rfl rfl ?_
  dsimp only[List.set]at h
  exact bQ.mk ⟨h.ext,rfl⟩
 | true=>
  rw[hb]at cc1
  refine ce h gX (cc1 (.refl _)) fun w h=>?_
  refine gN (de h 1 rfl rfl rfl rfl fun w h=>?_)
  refine mj h 1 rfl rfl ?_
  dsimp only[List.set]at h
  exact bQ.mk ⟨h.ext,rfl⟩
theorem G1{w0:World}{p:RS}(hp:yG p):Calls prog 18 #[vR p] w0 (bQ fun r w'=>bK w0 w'/\r=J4 p (.slice none 0 0) (wu p [])):=by
 have hV:=fun {W:World} (e:bK w0 W)=>iC (w0:=W) (p:=p) (FD hp)
 cases hb:wu p [] with
 | false=>
  rw[hb]at hV
  have cc1:=@hV
  apply vL
  unfold qp
  have h:=Hp.init [] w0
  refine ep h fun g1 w h=>?_
  refine du h fun g2 w h=>?_
  refine dy h 1 rfl rfl ?_
  refine u7 (PC.cons (by rfl) PC.nil) (by rfl) ?_
  refine du h fun g3 w h=>?_
  refine de h 0 rfl rfl rfl rfl fun w h=>?_
  refine dy h 0 rfl rfl ?_
  refine ce h dz (cc1 h.ext) fun w h=>?_
  refine d7 (co (u7 PC.nil (by rfl) ?_))
  refine de h 1 rfl rfl rfl rfl fun w h=>?_
  refine mj h 1 rfl rfl ?_
  dsimp only[List.set]at h
  exact bQ.mk ⟨h.ext,rfl⟩
 | true=>
  rw[hb]at hV
  have cc1:=@hV
  apply vL
  unfold qp
  have h:=Hp.init [] w0
  refine ep h fun g1 w h=>?_
  refine du h fun g2 w h=>?_
  refine dy h 1 rfl rfl ?_
  refine u7 (PC.cons (by rfl) PC.nil) (by rfl) ?_
  refine du h fun g3 w h=>?_
  refine de h 0 rfl rfl rfl rfl fun w h=>?_
  refine dy h 0 rfl rfl ?_
  refine ce h dz (cc1 h.ext) fun w h=>?_
  refine ct (cf (dy h 0 rfl rfl ?_))
  refine de h 1 rfl rfl rfl rfl fun w h=>?_
  refine mj h 1 rfl rfl ?_
  dsimp only[List.set]at h
  exact bQ.mk ⟨h.ext,rfl⟩
section
variable{w0:World}{p:RS}{v:Value}{l:List WR}(hA:Ak w0 p v l)
include hA
theorem Mq(hE:En w0)(hno:¬uI p l):Calls prog 19 #[vA p v] w0 (bQ fun r w'=>bK w0 w'/\r=.tuple #[vR ([],[]),.int .i64 280]):=by
 have cc1:=fun {W:World} (e:bK w0 W)=>kF (w0:=W) (hE.ext e) (hA.ext e)
 rw[kE hno]at cc1
 apply vM
 unfold qr
 have h:=Hp.init [] w0
 refine ep h fun g1 w h=>?_
 refine du h fun g2 w h=>?_
 refine dy h 1 rfl rfl ?_
 refine ce h dZ (cc1 h.ext) fun w h=>?_
 refine d7 (co (u7 PC.nil (by rfl) ?_))
 refine de h 0 rfl rfl rfl rfl fun w h=>?_
 refine mj h 0 rfl rfl ?_
 dsimp only[List.set]at h
 exact bQ.mk ⟨h.ext,rfl⟩
theorem J5(hno:¬uI p l):Calls prog 20 #[vA p v] w0 (bQ fun r w'=>bK w0 w'/\r=.tuple #[vR ([],[]),.int .i64 280]):=by
 have cc1:=fun {W:World} (e:bK w0 W)=>iC (w0:=W) (hA.ext e)
 rw[kE hno]at cc1
 apply vO
 unfold qt
 have h:=Hp.init [] w0
 refine ep h fun g1 w h=>?_
 refine du h fun g2 w h=>?_
 refine dy h 1 rfl rfl ?_
 refine ce h dz (cc1 h.ext) fun w h=>?_
 refine d7 (co (u7 PC.nil (by rfl) ?_))
 refine de h 0 rfl rfl rfl rfl fun w h=>?_
 refine mj h 0 rfl rfl ?_
 dsimp only[List.set]at h
 exact bQ.mk ⟨h.ext,rfl⟩
end
section
variable{w0:World}{B:Rat}{v:Value}{ws:List Wt}(hA:Ak w0 (tx B) v (ws.map wr))(hV:VA B ws)
include hA hV
theorem G2(hE:En w0):Calls prog 19 #[vA (tx B) v] w0 (bQ fun r w'=>bK w0 w'/\r=.tuple #[vR (tx (B - Alm.fL Alm.al ws)),.int .i64 0]):=by
 have hok:uI (tx B) (ws.map wr):=⟨B,ws,rfl,rfl,hV⟩
 have cc1:=fun {W:World} (e:bK w0 W)=>kF (w0:=W) (hE.ext e) (hA.ext e)
 rw[mC hok]at cc1
 have hv:dJ w0 15 v ws.length ((ws.map wr).flatMap fW):=by have:=hA.hv;rw[List.length_map]at this;exact this
 have hal:∀ w∈ws,Sm 1 w.al:=fun w hw=>(hV.ok w hw).al
 have hl:=hV.len
 have hs:=wC hal
 have sb:=Sm.sr1 hV.b
 have cc2:=fun {W:World} (e:bK w0 W)=>GP (w0:=W) (p:=tx B) (hv.ext e) hal hV.len (hE.ext e)
 have cc3:=fun {W:World} (e:bK w0 W)=>M8 (w:=W) (k:=99) sb hs (by omega) (by omega) (by omega) (by omega) (hE.hT.ext e)
 have cc4:=fun {W:World} (_:bK w0 W)=>wB (w:=W) (p:=tx (B - Alm.fL Alm.al ws))
 apply vM
 unfold qr
 have h:=Hp.init [] w0
 refine ep h fun g1 w h=>?_
 refine du h fun g2 w h=>?_
 refine dy h 1 rfl rfl ?_
 refine ce h dZ (cc1 h.ext) fun w h=>?_
 refine ct (cf ?_)
 replace h:=h.dr
 refine di (fu h 1 rfl rfl ?_)
 refine fu h 1 rfl rfl ?_
 refine ce h pa (cc2 h.ext) fun w h=>?_
 refine cP h 1 rfl rfl ?_
 refine ce h sh (cc3 h.ext) fun w h=>?_
 refine uP (ce h ew (cc4 h.ext) fun w h=>?_)
 refine de h 0 rfl rfl rfl rfl fun w h=>?_
 refine mj h 0 rfl rfl ?_
 dsimp only[List.set]at h
 exact bQ.mk ⟨h.ext,rfl⟩
theorem J6:Calls prog 20 #[vA (tx B) v] w0 (bQ fun r w'=>bK w0 w'/\r=.tuple #[vR (tx (B - Alm.fL Alm.al ws)),.int .i64 0]):=by
 have hok:uI (tx B) (ws.map wr):=⟨B,ws,rfl,rfl,hV⟩
 have cc1:=fun {W:World} (e:bK w0 W)=>iC (w0:=W) (hA.ext e)
 rw[mC hok]at cc1
 have hv:dJ w0 15 v ws.length ((ws.map wr).flatMap fW):=by have:=hA.hv;rw[List.length_map]at this;exact this
 have hal:∀ w∈ws,Sm 1 w.al:=fun w hw=>(hV.ok w hw).al
 have hl:=hV.len
 have hs:=wC hal
 have sb:=Sm.sr1 hV.b
 have cc2:=fun {W:World} (e:bK w0 W)=>DU (w0:=W) (p:=tx B) (hv.ext e) hal hV.len
 have cc3:=fun {W:World} (_:bK w0 W)=>Jo (w0:=W) (k:=99) sb hs (by omega) (by omega) (by omega) (by omega)
 apply vO
 unfold qt
 have h:=Hp.init [] w0
 refine ep h fun g1 w h=>?_
 refine du h fun g2 w h=>?_
 refine dy h 1 rfl rfl ?_
 refine ce h dz (cc1 h.ext) fun w h=>?_
 refine ct (cf ?_)
 replace h:=h.dr
 refine di (fu h 1 rfl rfl ?_)
 refine fu h 1 rfl rfl ?_
 refine ce h pc (cc2 h.ext) fun w h=>?_
 refine cP h 1 rfl rfl ?_
 refine ce h jo (cc3 h.ext) fun w h=>?_
 refine de h 0 rfl rfl rfl rfl fun w h=>?_
 refine mj h 0 rfl rfl ?_
 dsimp only[List.set]at h
 exact bQ.mk ⟨h.ext,rfl⟩
end
theorem Pb{c:Bool}{w:World}{K:Value->World->Prop}(hk:K (.bool true) w):Bn prog .eql 26 c (.slice none 0 0) (.slice none 0 0) w K:=by(repeat (first|simp -dsimp[go_sem,underlying26]|simp -dsimp (disch:=omega)only[gL,gI]));exact hk
theorem Pc{c:Bool}{a:Addr}{n m:Nat}{w:World}{K:Value->World->Prop}(hk:K (.bool false) w):Bn prog .eql 26 c (.slice (some a) n m) (.slice none 0 0) w K:=by(repeat (first|simp -dsimp[go_sem,underlying26]|simp -dsimp (disch:=omega)only[gL,gI]));exact hk
theorem Mr{w0:World}{v:Value}{l:List WR}(hv:dJ w0 15 v l.length (l.flatMap fW))(hl:l.length<=1000000):Calls prog 90 #[v] w0 (bQ fun r w'=>∃ u,r=u/\Hp [] w0 w' [ro gM 15 u l.length (l.flatMap fW)]):=by
 have h1:=Cz l
 rcases hv.2 with ⟨rfl,h0⟩ | ⟨b,o,cap,rfl,hc⟩
 ·have e:l=[]:=List.eq_nil_of_length_eq_zero h0
  subst e
  apply gJ
  unfold eF
  refine Pb ?_
  have h:=(Hp.init [] w0).nil gM 15
  refine co ?_
  exact bQ.mk ⟨_,rfl,h⟩
 ·apply gJ
  unfold eF
  refine Pc ?_
  have h:=Hp.init [] w0
  refine cf (It h fun v w h=>?_)
  refine kq (by rfl) (by decide) h 0 rfl (hv.hp h) (by first | rfl | assumption) (by omega) fun v1 w h=>?_
  dsimp only[List.set]at h
  have h:Hp [] w0 w [ro gM 15 v1 (0+l.length) ([]++l.flatMap fW)]:=h
  rw[Nat.zero_add,List.nil_append]at h
  exact bQ.mk ⟨_,rfl,h⟩
theorem J7{w0:World}{p:RS}{v:Value}{l:List WR}(hv:dJ w0 15 v l.length (l.flatMap fW))(hl:l.length<=1000000):Calls prog 56 #[vA p v] w0 (bQ fun r w'=>∃ g u,r=pr g 0/\Hp [] w0 w' [bx g Nq [bh p.1,bh p.2,u],ro gM 15 u l.length (l.flatMap fW)]):=by
 have cr1:=fun {W:World} (e:bK w0 W)=>Mr (w0:=W) (hv.ext e) hl
 apply F8
 unfold Ai
 have h:=Hp.init [] w0
 refine ep h fun g1 w h=>?_
 replace h:=h.dr
 refine di (fu h 0 rfl rfl ?_)
 refine di (iX h 0 rfl rfl (UZ h kg (cr1 h.ext) fun v1 w h=>?_))
 refine cP h 1 rfl rfl ?_
 refine nS (PC.cons (by rfl) (PC.cons (by first | assumption | exact qY 0 h rfl) PC.nil)) (by rfl) ?_
 refine nS (PC.cons (by rfl) PC.nil) (by rfl) ?_
 refine ep h fun g2 w h=>?_
 exact bQ.mk ⟨_,_,rfl,h.pick [0,1] (by decide) rfl⟩
abbrev Pd:TypeId:=91
theorem Nr{w0:World}{g:Nat}:Calls prog 57 #[pr g 0] w0 (bQ fun r w'=>∃ b,r=.func (.func 91) #[] #[pr b 0]/\Hp [] w0 w' [bx b Pd [pr g 0]]):=by
 apply wX
 unfold pL
 have h:=Hp.init [] w0
 refine ep h fun g1 w h=>?_
 exact bQ.mk ⟨_,rfl,h⟩
def Hd(u:Value)(n gr:Nat):Prop:=(u=.slice none 0 0/\n=0)\/∃ cap,u=.slice (some ⟨gr,0,none⟩) n cap/\n<=cap
theorem Ns{w:World}{e:TypeId}{c n:Nat}{u:Value}{xs:List Value}(h:w.ownsRow 0 e c u n xs):∃ gr,Hd u n gr:=by
 obtain⟨h1,h | ⟨g,cap,cur,h2,_,_,h3,_⟩⟩:=h
 ·exact⟨0,.inl h⟩
 ·exact⟨g,.inr ⟨cap,h2,h3⟩⟩
theorem Hd.some{u:Value}{n gr:Nat}(h:Hd u n gr)(hn:0 < n):∃ cap,u=.slice (some ⟨gr,0,none⟩) n cap:=by
 rcases h with ⟨_,h⟩ | ⟨cap,h,_⟩
 ·omega
 ·exact⟨cap,h⟩
abbrev D6(n gr:Nat):List (Value×Value):=(List.range n).map fun(i:Nat)=>((.int .i64 (i:Int):Value),pr gr (0+i * 15))
theorem zK{n gr i:Nat}(h:i < n):(D6 n gr)[i]?=some (.int .i64 (i:Int),pr gr (0+i * 15)):=by
 simp[D6,h]
set_option maxHeartbeats 4000000 in
theorem J8{w:World}{b g gr n:Nat}{u:Value}{J:Nat->World->Prop}(hu:Hd u n gr)(hn:n<=1000000)(hJ:∀ k W,J k W->W.cell? ⟨b,0,none⟩=some (pr g 0)/\W.cell? ⟨g,2,none⟩=some u):
 FR prog 91 #[pr b 0] ((D6 n gr).map fun p=>[p.1,p.2]) w J:=by
 intro lx JJ XX W1 hW1 hJJ hst hXst hround h0
 have f0:=hJ 0 W1 (hJJ _ _ h0)
 apply uV
 unfold nO
 have h:=Hp.init [] W1
 refine Mp f0.1 ?_
 refine tH ?_
 refine ck (ck (Mp (o:=2) f0.2 ?_))
 have hlen:Bt prog .len #[26] 3 #[u] W1=Bt prog .len #[26] 3 #[u] W1:=rfl
 have go:∀ {K:Value->World->Prop},K (.int .i64 (n:Int)) W1->Bt prog .len #[26] 3 #[u] W1 K:=fun {K} hk=>by
  rcases hu with ⟨rfl,rfl⟩ | ⟨cap,rfl,hc⟩
  ·exact dw ⟨_,underlying26⟩ hk
  ·exact dw ⟨_,underlying26⟩ hk
 refine go ?_
 clear go hlen
 refine jt.mk (fun a W=>∃ s:Nat,s<=n/\a=.int .i64 s/\JJ s W) (fun a _=>match a with | .int _ x=>n - x.toNat | _=>0) ⟨0,by omega,rfl,h0⟩ ?_
 clear h f0
 rintro _ W ⟨s,hs,rfl,hj⟩
 have f:=hJ _ W (hJJ _ _ hj)
 have h:=Hp.init [] W
 by_cases hsl:s < n
 ·have hr:=hround s [.int .i64 (s:Int),pr gr (0+s * 15)] W (by rw[List.getElem?_map,zK hsl];rfl) hj
  obtain⟨cap,rfl⟩:=hu.some (by omega)
  refine cy (by omega) (co (Mp f.1 ?_))
  refine tH ?_
  refine ck (ck (Mp (o:=2) f.2 ?_))
  refine oH (Fm (by omega) _) ?_
  refine Rm hr ?_
  rintro bb W' (⟨rfl,hj'⟩ | ⟨rfl,hx⟩)
  ·have h:=Hp.init [] W'
   refine ct (cf (cF (by omega) (by omega) ?_))
   refine⟨⟨s+1,by omega,rfl,hj'⟩,by show n - ((s:Int)+1).toNat < n - (s:Int).toNat;omega⟩
  ·have h:=Hp.init [] W'
   refine d7 (co ?_)
   exact⟨⟨_,rfl⟩,.inr hx⟩
 ·have e:s=n:=by omega
  subst e
  have e2:((D6 s gr).map fun p=>[p.1,p.2]).length=s:=by simp
  refine cD (by omega) (cf ?_)
  refine⟨⟨_,rfl⟩,.inl ?_⟩
  rw[e2]
  exact hj
def wI(st:Int)(l:List WR):Int:=l.foldl (fun s v=>max s v.th) st
theorem D7{st:Int}{l:List WR}{i:Nat}{x:WR}(h:l[i]?=some x):wI st (l.take (i+1))=max (wI st (l.take i)) x.th:=by
 rw[iA h];unfold wI;rw[List.foldl_append];rfl
theorem G3{st:Int}{l:List WR}(h0:eS st)(h:∀ r∈l,eS r.th):eS (wI st l):=by
 unfold wI
 induction l generalizing st with
 | nil=>exact h0
 | cons r l ih=>
  rw[List.foldl_cons]
  have:=h r List.mem_cons_self
  exact ih (by omega) fun x hx=>h x (List.mem_cons_of_mem _ hx)
def nw(l:List WR)(r:WR):WR:=⟨r.op,r.ve,r.lim,r.m,r.a,r.b,wI r.st l,wI r.st l,0,([49],[49]),(r.a.1 == [49] && r.a.2 == [49])⟩
set_option maxHeartbeats 8000000 in
theorem nA{w0:World}{p:RS}{v:Value}{l:List WR}{r:WR}(hE:En w0)(hA:Ak w0 p v l)(hr:WRk r):Calls prog 22 #[vA p v,vW r] w0
 (bQ fun o w'=>(¬uI p l/\bK w0 w'/\o=.tuple #[vA ([],[]) (.slice none 0 0),.int .i64 280])\/(uI p l/\∃ u,o=J4 p u (wu p (l++[nw l r]))/\Hp [] w0 w' [ro gM 15 u (l.length+1) ((l++[nw l r]).flatMap fW)])):=by
 have hV:=fun {W:World} (e:bK w0 W)=>kF (w0:=W) (hE.ext e) (hA.ext e)
 by_cases hok:uI p l
 rotate_left
 ·rw[kE hok]at hV
  have cc1:=@hV
  apply pJ
  unfold lC
  have h:=Hp.init [] w0
  refine ep h fun g1 w h=>?_
  refine ep h fun g2 w h=>?_
  refine du h fun g3 w h=>?_
  refine dy h 2 rfl rfl ?_
  refine ce h dZ (cc1 h.ext) fun w h=>?_
  refine d7 (co (u7 PC.nil (by rfl) ?_))
  refine de h 0 rfl rfl rfl rfl fun w h=>?_
  refine mj h 0 rfl rfl ?_
  dsimp only[List.set]at h
  exact bQ.mk (.inl ⟨hok,h.ext,rfl⟩)
 rw[mC hok]at hV
 have cc1:=@hV
 have z1:=hE.z1
 have hl12:l.length<=12:=by
  obtain⟨B,ws,_,rfl,h⟩:=hok
  rw[List.length_map];exact h.len
 obtain⟨hp,hv,hk,hl⟩:=hA
 apply pJ
 unfold lC
 have h:=Hp.init [] w0
 refine ep h fun g1 w h=>?_
 refine ep h fun g2 w h=>?_
 refine du h fun g3 w h=>?_
 refine dy h 2 rfl rfl ?_
 refine ce h dZ (cc1 h.ext) fun w h=>?_
 refine ct (cf (dy h 2 rfl rfl ?_))
 refine cu Aj (J7 (w0:=w) (p:=p) (hv.ext h.ext) hl) ?_
 rintro _ w1 ⟨gy,u,rfl,h1⟩
 have h:=h.cat2 h1 xu dM
 refine cu pM (Nr (g:=gy)) ?_
 rintro _ w2 ⟨b,rfl,h2⟩
 have h:=h.cat1 h2 xu
 clear h1 h2 cc1
 have hsz:=h.size
 have hks:=h.ksz
 refine Exists.elim (Ns (h.get (i:=2) rfl:World.ownsRow _ _ _ _ _ _ _)) fun gr hu=>?_
 refine Ha.mk 91 #[pr b 0] (D6 l.length gr) (fun i W=>Hp [] w0 W [bx b Pd [pr gy 0],bx gy Nq [bh p.1,bh p.2,u],ro gM 15 u l.length (l.flatMap fW),bx g3 jA [bh [],bh [],.slice none 0 0],bx g2 gM (fW ⟨r.op,r.ve,r.lim,r.m,r.a,r.b,wI r.st (l.take i),r.th,r.sn,r.we,r.ru⟩),bx g1 jA [bh p.1,bh p.2,v]]) (fun _ _=>False) rfl nP
  (J8 hu (by omega) (g:=gy) fun i W h=>⟨(h.get (i:=0) rfl:cM _ _ _ _).cell rfl,(h.get (i:=1) rfl:cM _ _ _ _).cell rfl⟩) (fun i W W' h b=>h.bk hks hsz b) (fun _ _ _ h _=>h) h ?_ ?_ (fun _ _ _ _ h=>h.elim) (by simp)
 ·rintro a0 a1 i W hi h hs
  have hin:i < l.length:=by
   have:=(List.getElem?_eq_some_iff.1 hi).1
   simpa using this
  rw[zK hin]at hi
  obtain⟨rfl,rfl⟩:=Prod.mk.inj (Option.some.inj hi)
  obtain⟨cap,hcap⟩:=hu.some (by omega)
  refine Exists.elim (p:=fun x=>l[i]?=some x) ⟨_,List.getElem?_eq_getElem hin⟩ fun x hx=>?_
  have sx:iY (l.flatMap fW) (i * 15) (fW x):=cZ (f:=fW) (fun _=>rfl) hx
  have hst:=D7 (st:=r.st) hx
  replace h:=h.fr w2.heap.size (by omega) (fun k hk=>.inl (hks k hk))
  replace h:=h.dr
  refine di (iX h 5 rfl rfl (hH ?_))
  refine di (E0 h 3 rfl ‹_› sx (by rfl) ?_)
  refine Cu (di (tl h 5 rfl rfl rfl rfl fun w h=>?_))
  refine⟨?_,?_⟩
  dsimp only[List.set]at h
  ·rw[hst]
   exact h.pick [1,2,3,4,5,6] (by decide) rfl
  ·exact h.get (i:=0) rfl
 ·rintro D W hD hd h
  replace h:=h.df hd (by omega) (fun hc=>by have:=hks _ hc;omega)
  rw[show(D6 l.length gr).length=l.length by simp,List.take_length]at h
  clear hd
  have hsI:=G3 hr.st (fun x hx=>(hk x hx).th)
  have h1:=Cz [nw l r]
  obtain⟨bA,hb⟩:∃ bA,(r.a.1 == [49] && r.a.2 == [49])=bA:=⟨_,rfl⟩
  have e1:[nw l r].flatMap fW=fW ⟨r.op,r.ve,r.lim,r.m,r.a,r.b,wI r.st l,wI r.st l,0,([49],[49]),bA⟩:=by unfold nw;rw[hb];rfl
  have e2:(l++[nw l r]).flatMap fW=l.flatMap fW++fW ⟨r.op,r.ve,r.lim,r.m,r.a,r.b,wI r.st l,wI r.st l,0,([49],[49]),bA⟩:=by rw[List.flatMap_append,e1]
  have fin:∀ {w:World} {u2:Value},Hp [] w0 w [ro gM 15 u2 (l.length+1) ((l++[nw l r]).flatMap fW)]->Ak w p u2 (l++[nw l r]):=fun {w} {u2} h=>by
   refine⟨hp,?_,fun x hx=>?_,by rw[List.length_append];simp;omega⟩
   ·rw[List.length_append];exact h.sl (i:=0) rfl
   ·rcases List.mem_append.1 hx with hx | hx
    ·exact hk x hx
    ·rw[List.mem_singleton]at hx
     subst hx
     exact⟨hr.op,hr.ve,hr.lim,hr.m,hr.a,hr.b,hsI,hsI,by show eS 0;omega,⟨by simp[nw],by simp[nw]⟩⟩
  obtain⟨bo,hbo⟩:∃ bo,wu p (l++[nw l r])=bo:=⟨_,rfl⟩
  rw[e2]at fin
  rw[e2,hbo]
  cases bA with
  | false=>
   replace h:=h.dr
   refine di (iX h 5 rfl rfl (uK h ‹_› (by rfl) ?_))
   refine di (fu h 5 rfl rfl ?_)
   refine uK h ‹_› (by rfl) ?_
   refine rV ‹_› ?_
   refine di (tl h 5 rfl rfl rfl rfl fun w h=>?_)
   refine eT h ‹_› (by rfl) ?_
   refine eT h ‹_› (by rfl) ?_
   refine BL (rV ‹_› rfl) ?_
   refine di (tl h 5 rfl rfl rfl rfl fun w h=>?_)
   refine eT h ‹_› (by rfl) ?_
   refine eT h ‹_› (by rfl) ?_
   refine BL (rV ‹_› rfl) ?_
   refine di (de h 5 rfl rfl rfl rfl fun w h=>?_)
   refine eT h ‹_› (by rfl) ?_
   refine BL (rV ‹_› rfl) ?_
   refine di (tl h 5 rfl rfl rfl rfl fun w h=>?_)
   dsimp only[List.set]at h
   refine hH ?_
   replace h:=h.dr
   refine di (di (iX h 2 rfl rfl (fu h 5 rfl rfl ?_)))
   refine lA h (by rfl) (by decide) (by rfl) (by decide) fun v1 w h=>?_
   refine fU h 3 rfl rfl (kq (by rfl) (by decide) h 4 rfl (qZ 0 h rfl) (by first | rfl | assumption) (by omega) fun v2 w h=>?_)
   refine hH ?_
   refine di (di (HH h 3 rfl (qZ 4 h rfl) rfl fun w h=>?_))
   dsimp only[List.set]at h
   have A:=fin (h.pick [4] (by decide) rfl)
   refine cu gX (CA (hE.ext h.ext) A (h.get (i:=3) rfl)) ?_
   rintro _ w' ⟨x,rfl⟩
   have h:=h.x x
   rw[hbo]
   cases bo with
   | false=>
    refine gN (de h 5 rfl rfl rfl rfl fun w h=>?_)
    refine P6 h 1 rfl fun w h=>?_
    refine mj h 5 rfl rfl ?_
    dsimp only[List.set]at h
    exact bQ.mk (.inr ⟨hok,_,rfl,h.pick [4] (by decide) rfl⟩)
   | true=>
    refine Exists.elim (qZ 4 h rfl).key fun qa hq=>Exists.elim hq fun ql hq=>Exists.elim hq fun qm hq=>?_
    have hq:=hq.1
    subst hq
    refine gN (de h 5 rfl rfl rfl rfl fun w h=>?_)
    refine P6 h 1 rfl fun w h=>?_
    refine mj h 5 rfl rfl ?_
    dsimp only[List.set]at h
    exact bQ.mk (.inr ⟨hok,_,rfl,h.pick [4] (by decide) rfl⟩)
  | true=>
   replace h:=h.dr
   refine di (iX h 5 rfl rfl (uK h ‹_› (by rfl) ?_))
   refine di (fu h 5 rfl rfl ?_)
   refine uK h ‹_› (by rfl) ?_
   refine vk ‹_› ?_
   refine di (tl h 5 rfl rfl rfl rfl fun w h=>?_)
   refine eT h ‹_› (by rfl) ?_
   refine eT h ‹_› (by rfl) ?_
   refine BL (vk ‹_› rfl) ?_
   refine di (tl h 5 rfl rfl rfl rfl fun w h=>?_)
   refine eT h ‹_› (by rfl) ?_
   refine eT h ‹_› (by rfl) ?_
   refine BL (vk ‹_› rfl) ?_
   refine di (de h 5 rfl rfl rfl rfl fun w h=>?_)
   refine eT h ‹_› (by rfl) ?_
   refine BL (vk ‹_› rfl) ?_
   refine di (tl h 5 rfl rfl rfl rfl fun w h=>?_)
   dsimp only[List.set]at h
   refine hH ?_
   replace h:=h.dr
   refine di (di (iX h 2 rfl rfl (fu h 5 rfl rfl ?_)))
   refine lA h (by rfl) (by decide) (by rfl) (by decide) fun v1 w h=>?_
   refine fU h 3 rfl rfl (kq (by rfl) (by decide) h 4 rfl (qZ 0 h rfl) (by first | rfl | assumption) (by omega) fun v2 w h=>?_)
   refine hH ?_
   refine di (di (HH h 3 rfl (qZ 4 h rfl) rfl fun w h=>?_))
   dsimp only[List.set]at h
   have A:=fin (h.pick [4] (by decide) rfl)
   refine cu gX (CA (hE.ext h.ext) A (h.get (i:=3) rfl)) ?_
   rintro _ w' ⟨x,rfl⟩
   have h:=h.x x
   rw[hbo]
   cases bo with
   | false=>
    refine gN (de h 5 rfl rfl rfl rfl fun w h=>?_)
    refine P6 h 1 rfl fun w h=>?_
    refine mj h 5 rfl rfl ?_
    dsimp only[List.set]at h
    exact bQ.mk (.inr ⟨hok,_,rfl,h.pick [4] (by decide) rfl⟩)
   | true=>
    refine Exists.elim (qZ 4 h rfl).key fun qa hq=>Exists.elim hq fun ql hq=>Exists.elim hq fun qm hq=>?_
    have hq:=hq.1
    subst hq
    refine gN (de h 5 rfl rfl rfl rfl fun w h=>?_)
    refine P6 h 1 rfl fun w h=>?_
    refine mj h 5 rfl rfl ?_
    dsimp only[List.set]at h
    exact bQ.mk (.inr ⟨hok,_,rfl,h.pick [4] (by decide) rfl⟩)
set_option maxHeartbeats 8000000 in
theorem rU{w0:World}{p:RS}{v:Value}{l:List WR}{r:WR}(hA:Ak w0 p v l)(hr:WRk r):Calls prog 23 #[vA p v,vW r] w0
 (bQ fun o w'=>(¬uI p l/\bK w0 w'/\o=.tuple #[vA ([],[]) (.slice none 0 0),.int .i64 280])\/(uI p l/\∃ u,o=J4 p u (wu p (l++[nw l r]))/\Hp [] w0 w' [ro gM 15 u (l.length+1) ((l++[nw l r]).flatMap fW)])):=by
 have hV:=fun {W:World} (e:bK w0 W)=>iC (w0:=W) (hA.ext e)
 by_cases hok:uI p l
 rotate_left
 ·rw[kE hok]at hV
  have cc1:=@hV
  apply pK
  unfold lD
  have h:=Hp.init [] w0
  refine ep h fun g1 w h=>?_
  refine ep h fun g2 w h=>?_
  refine du h fun g3 w h=>?_
  refine dy h 2 rfl rfl ?_
  refine ce h dz (cc1 h.ext) fun w h=>?_
  refine d7 (co (u7 PC.nil (by rfl) ?_))
  refine de h 0 rfl rfl rfl rfl fun w h=>?_
  refine mj h 0 rfl rfl ?_
  dsimp only[List.set]at h
  exact bQ.mk (.inl ⟨hok,h.ext,rfl⟩)
 rw[mC hok]at hV
 have cc1:=@hV
 have cc2:∀ {W:World},bK w0 W->Calls prog 55 #[.int .i64 1,.int .i64 1] W (bQ fun r w'=>bK W w'/\r=.agg #[bh [49],bh [49]]):=fun {W} _=>by
  have:=mh (w:=W) (n:=1) (by decide)
  rw[show tx (qI 1)=([49],[49]) from Oe]at this;exact this
 have hl12:l.length<=12:=by
  obtain⟨B,ws,_,rfl,h⟩:=hok
  rw[List.length_map];exact h.len
 obtain⟨hp,hv,hk,hl⟩:=hA
 have hsI:=G3 hr.st (fun x hx=>(hk x hx).th)
 have h1:=Cz l
 obtain⟨bA,hb⟩:∃ bA,(r.a.1 == [49] && r.a.2 == [49])=bA:=⟨_,rfl⟩
 have e1:[nw l r].flatMap fW=fW ⟨r.op,r.ve,r.lim,r.m,r.a,r.b,wI r.st l,wI r.st l,0,([49],[49]),bA⟩:=by unfold nw;rw[hb];rfl
 have e2:(l++[nw l r]).flatMap fW=l.flatMap fW++fW ⟨r.op,r.ve,r.lim,r.m,r.a,r.b,wI r.st l,wI r.st l,0,([49],[49]),bA⟩:=by rw[List.flatMap_append,e1]
 have fin:∀ {w:World} {u2:Value},Hp [] w0 w [ro gM 15 u2 (l.length+1) ((l++[nw l r]).flatMap fW)]->Ak w p u2 (l++[nw l r]):=fun {w} {u2} h=>by
  refine⟨hp,?_,fun x hx=>?_,by rw[List.length_append];simp;omega⟩
  ·rw[List.length_append];exact h.sl (i:=0) rfl
  ·rcases List.mem_append.1 hx with hx | hx
   ·exact hk x hx
   ·rw[List.mem_singleton]at hx
    subst hx
    exact⟨hr.op,hr.ve,hr.lim,hr.m,hr.a,hr.b,hsI,hsI,by show eS 0;omega,⟨by simp[nw],by simp[nw]⟩⟩
 obtain⟨bo,hbo⟩:∃ bo,wu p (l++[nw l r])=bo:=⟨_,rfl⟩
 rw[e2]at fin
 rw[e2,hbo]
 apply pK
 unfold lD
 have h:=Hp.init [] w0
 refine ep h fun g1 w h=>?_
 refine ep h fun g2 w h=>?_
 refine du h fun g3 w h=>?_
 refine dy h 2 rfl rfl ?_
 refine ce h dz (cc1 h.ext) fun w h=>?_
 refine ct (cf ?_)
 refine mE.lfb gM (fW ⟨r.op,r.ve,r.lim,r.m,r.a,r.b,r.st,0,0,([49],[49]),false⟩) h (fun K lf1=>?_) (fun gx w h=>?_)
 ·replace h:=h.dr
  refine di (iX h 1 rfl rfl (di (iX h 1 rfl rfl (di (iX h 1 rfl rfl (di (fu h 1 rfl rfl ?_)))))))
  refine di (fu h 1 rfl rfl ?_)
  refine di (fu h 1 rfl rfl ?_)
  refine di (iX h 1 rfl rfl ?_)
  refine⟨?_,?_⟩
  refine ce h cq (cc2 h.ext) fun w h=>?_
  refine fU h 1 rfl rfl (fU h 1 rfl rfl (fU h 1 rfl rfl (cP h 1 rfl rfl ?_)))
  refine cP h 1 rfl rfl ?_
  refine cP h 1 rfl rfl ?_
  refine fU h 1 rfl rfl (nS (PC.cons (by rfl) (PC.cons (by rfl) (PC.cons (by rfl) (PC.cons (by rfl) (PC.cons (by rfl) (PC.cons (by rfl) (PC.cons (by rfl) (PC.cons (by rfl) PC.nil)))))))) (by rfl) ?_)
  refine du h fun g4 w h=>?_
  refine fU h 2 rfl rfl (fU h 2 rfl rfl (fU h 2 rfl rfl (cP h 2 rfl rfl ?_)))
  refine cP h 2 rfl rfl ?_
  refine cP h 2 rfl rfl ?_
  refine fU h 2 rfl rfl (de h 0 rfl rfl rfl rfl fun w h=>?_)
  exact lf1 _ _ h
  refine du h fun g4 w h=>?_
  refine fU h 2 rfl rfl (fU h 2 rfl rfl (fU h 2 rfl rfl (cP h 2 rfl rfl ?_)))
  refine cP h 2 rfl rfl ?_
  refine cP h 2 rfl rfl ?_
  refine fU h 2 rfl rfl (ce h cq (cc2 h.ext) fun w h=>?_)
  refine fU h 2 rfl rfl (fU h 2 rfl rfl (fU h 2 rfl rfl (cP h 2 rfl rfl ?_)))
  refine cP h 2 rfl rfl ?_
  refine cP h 2 rfl rfl ?_
  refine fU h 2 rfl rfl (nS (PC.cons (by rfl) (PC.cons (by rfl) (PC.cons (by rfl) (PC.cons (by rfl) (PC.cons (by rfl) (PC.cons (by rfl) (PC.cons (by rfl) (PC.cons (by rfl) PC.nil)))))))) (by rfl) ?_)
  refine de h 0 rfl rfl rfl rfl fun w h=>?_
  exact lf1 _ _ h
 refine jt.mk (fun i W=>∃ j:Nat,j<=l.length/\i=.int .i64 j/\Hp [] w0 W [bx gx gM (fW ⟨r.op,r.ve,r.lim,r.m,r.a,r.b,wI r.st (l.take j),0,0,([49],[49]),false⟩),bx g3 jA [bh [],bh [],.slice none 0 0],bx g2 gM (fW r),bx g1 jA [bh p.1,bh p.2,v]])
  (fun i _=>match i with | .int _ i'=>l.length - i'.toNat | _=>0) ⟨0,by omega,rfl,h⟩ ?_
 clear h
 rintro _ W ⟨j,hj,rfl,h⟩
 by_cases hjl:j < l.length
 ·refine Exists.elim (p:=fun x=>l[j]?=some x) ⟨_,List.getElem?_eq_getElem hjl⟩ fun x hx=>?_
  have sx:iY (l.flatMap fW) (j * 15) (fW x):=cZ (f:=fW) (fun _=>rfl) hx
  have hst:=D7 (st:=r.st) hx
  refine ck (Eng.ld1 h 3 rfl rfl (gS (hv.hp h) ?_))
  refine cy (by omega) (co ?_)
  replace h:=h.dr
  refine di (iX h 0 rfl rfl (di (iX h 3 rfl rfl (nT h ‹_› (by omega) fun zb zo zk zv zc=>?_))))
  refine di (pT h ‹_› ‹_› (by rfl) ?_)
  refine Cu (di (tl h 0 rfl rfl rfl rfl fun w h=>?_))
  refine cF (by omega) (by omega) ?_
  dsimp only[List.set]at h
  exact⟨⟨j+1,by omega,rfl,by rw[hst];exact h⟩,by show l.length - ((j:Int)+1).toNat < l.length - (j:Int).toNat;omega⟩
 have hjl':j=l.length:=by omega
 subst hjl'
 rw[List.take_length]at h
 cases bA with
 | false=>
  refine ck (Eng.ld1 h 3 rfl rfl (gS (hv.hp h) ?_))
  refine cD (by omega) (cf (ck (Eng.ld1 h 0 rfl rfl (ck (tl h 0 rfl rfl rfl rfl fun w h=>?_)))))
  replace h:=h.dr
  refine di (fu h 0 rfl rfl ?_)
  refine ce h cq (cc2 h.ext) fun w h=>?_
  refine cP h 0 rfl rfl ?_
  refine rV ‹_› ?_
  refine di (tl h 0 rfl rfl rfl rfl fun w h=>?_)
  dsimp only[List.set]at h
  refine mE.mk ?_
  intro K hK
  have lf1:∀ g u w,Hp [] w0 w [bx g jA [bh p.1,bh p.2,u],ro gM 15 u (0+l.length+1) ([]++l.flatMap fW++fW ⟨r.op,r.ve,r.lim,r.m,r.a,r.b,wI r.st l,wI r.st l,0,([49],[49]),false⟩),bx g3 jA [bh [],bh [],.slice none 0 0]]->K (pr g 0) w:=by
   clear h
   intro g u w h
   rw[Nat.zero_add,List.nil_append]at h
   refine hK _ _ ?_
   clear hK
   have A:=fin (h.pick [1] (by decide) rfl)
   have cc2:=fun {W:World} (e:bK w W)=>iC (w0:=W) (A.ext e)
   rw[hbo]at cc2
   cases bo with
   | false=>
    refine dy h 0 rfl rfl ?_
    refine ce h dz (cc2 (.refl _)) fun w h=>?_
    refine d7 (co (u7 PC.nil (by rfl) ?_))
    refine de h 2 rfl rfl rfl rfl fun w h=>?_
    refine mj h 2 rfl rfl ?_
    dsimp only[List.set]at h
    exact bQ.mk (.inr ⟨hok,_,rfl,h.pick [1] (by decide) rfl⟩)
   | true=>
    refine dy h 0 rfl rfl ?_
    refine ce h dz (cc2 (.refl _)) fun w h=>?_
    refine ct (cf (dy h 0 rfl rfl ?_))
    refine de h 2 rfl rfl (by exact jv (a:=[_,_]) (b:=[]) (qZ 1 h rfl) rfl rfl) rfl fun w h=>?_
    refine mj h 2 rfl rfl ?_
    dsimp only[List.set]at h
    exact bQ.mk (.inr ⟨hok,_,rfl,h.pick [1] (by decide) rfl⟩)
  clear hK
  replace h:=h.dr
  refine di (fu h 3 rfl rfl ?_)
  refine di (iX h 3 rfl rfl (fu h 0 rfl rfl ?_))
  refine⟨?_,?_⟩
  refine It h fun v1 w h=>?_
  refine cP h 4 rfl rfl ?_
  refine fU h 4 rfl rfl (cP h 1 rfl rfl ?_)
  refine⟨?_,?_⟩
  refine kq (by rfl) (by decide) h 0 rfl (hv.hp h) (by first | rfl | assumption) (by omega) fun v2 w h=>?_
  refine cP h 4 rfl rfl ?_
  refine cP h 1 rfl rfl ?_
  refine⟨?_,?_⟩
  refine lA h (by rfl) (by decide) (by rfl) (by decide) fun v3 w h=>?_
  refine cP h 5 rfl rfl ?_
  refine fU h 5 rfl rfl ?_
  refine⟨?_,?_⟩
  refine kq (by rfl) (by decide) h 1 rfl (qZ 0 h rfl) (by first | rfl | assumption) (by omega) fun v4 w h=>?_
  refine cP h 5 rfl rfl ?_
  refine nS (PC.cons (by rfl) (PC.cons (by first | assumption | exact qY 0 h rfl | exact qY 1 h rfl) PC.nil)) (by rfl) ?_
  refine du h fun g4 w h=>?_
  refine cP h 6 rfl rfl ?_
  refine fU h 6 rfl rfl (cP h 3 rfl rfl ?_)
  refine de h 0 rfl rfl (by exact jv (a:=[_,_]) (b:=[]) (qZ 2 h rfl) rfl rfl) rfl fun w h=>?_
  exact lf1 _ _ _ (h.pick [0,2,4] (by decide) rfl)
  refine du h fun g4 w h=>?_
  refine cP h 6 rfl rfl ?_
  refine fU h 6 rfl rfl (cP h 3 rfl rfl ?_)
  refine kq (by rfl) (by decide) h 2 rfl (qZ 1 h rfl) (by first | rfl | assumption) (by omega) fun v4 w h=>?_
  refine cP h 6 rfl rfl ?_
  refine nS (PC.cons (by rfl) (PC.cons (by first | assumption | exact qY 1 h rfl | exact qY 2 h rfl) PC.nil)) (by rfl) ?_
  refine de h 0 rfl rfl (by exact jv (a:=[_,_]) (b:=[]) (qZ 2 h rfl) rfl rfl) rfl fun w h=>?_
  exact lf1 _ _ _ (h.pick [0,2,4] (by decide) rfl)
  refine du h fun g4 w h=>?_
  refine cP h 5 rfl rfl ?_
  refine fU h 5 rfl rfl (cP h 2 rfl rfl ?_)
  refine lA h (by rfl) (by decide) (by rfl) (by decide) fun v3 w h=>?_
  refine cP h 6 rfl rfl ?_
  refine fU h 6 rfl rfl (kq (by rfl) (by decide) h 2 rfl (qZ 0 h rfl) (by first | rfl | assumption) (by omega) fun v4 w h=>?_)
  refine cP h 6 rfl rfl ?_
  refine nS (PC.cons (by rfl) (PC.cons (by first | assumption | exact qY 0 h rfl | exact qY 2 h rfl) PC.nil)) (by rfl) ?_
  refine de h 1 rfl rfl (by exact jv (a:=[_,_]) (b:=[]) (qZ 2 h rfl) rfl rfl) rfl fun w h=>?_
  exact lf1 _ _ _ (h.pick [1,2,4] (by decide) rfl)
  refine⟨?_,?_⟩
  refine lA h (by rfl) (by decide) (by rfl) (by decide) fun v2 w h=>?_
  refine cP h 5 rfl rfl ?_
  refine fU h 5 rfl rfl ?_
  refine⟨?_,?_⟩
  refine kq (by rfl) (by decide) h 1 rfl (hv.hp h) (by first | rfl | assumption) (by omega) fun v3 w h=>?_
  refine cP h 5 rfl rfl ?_
  refine cP h 2 rfl rfl ?_
  refine⟨?_,?_⟩
  refine kq (by rfl) (by decide) h 1 rfl (qZ 0 h rfl) (by first | rfl | assumption) (by omega) fun v4 w h=>?_
  refine cP h 5 rfl rfl ?_
  refine nS (PC.cons (by rfl) (PC.cons (by first | assumption | exact qY 0 h rfl | exact qY 1 h rfl) PC.nil)) (by rfl) ?_
  refine du h fun g4 w h=>?_
  refine cP h 6 rfl rfl ?_
  refine fU h 6 rfl rfl (cP h 3 rfl rfl ?_)
  refine de h 0 rfl rfl (by exact jv (a:=[_,_]) (b:=[]) (qZ 2 h rfl) rfl rfl) rfl fun w h=>?_
  exact lf1 _ _ _ (h.pick [0,2,4] (by decide) rfl)
  refine du h fun g4 w h=>?_
  refine cP h 6 rfl rfl ?_
  refine fU h 6 rfl rfl (cP h 3 rfl rfl ?_)
  refine kq (by rfl) (by decide) h 2 rfl (qZ 1 h rfl) (by first | rfl | assumption) (by omega) fun v4 w h=>?_
  refine cP h 6 rfl rfl ?_
  refine nS (PC.cons (by rfl) (PC.cons (by first | assumption | exact qY 1 h rfl | exact qY 2 h rfl) PC.nil)) (by rfl) ?_
  refine de h 0 rfl rfl (by exact jv (a:=[_,_]) (b:=[]) (qZ 2 h rfl) rfl rfl) rfl fun w h=>?_
  exact lf1 _ _ _ (h.pick [0,2,4] (by decide) rfl)
  refine du h fun g4 w h=>?_
  refine cP h 6 rfl rfl ?_
  refine fU h 6 rfl rfl (cP h 3 rfl rfl ?_)
  refine kq (by rfl) (by decide) h 2 rfl (hv.hp h) (by first | rfl | assumption) (by omega) fun v3 w h=>?_
  refine cP h 6 rfl rfl ?_
  refine cP h 3 rfl rfl ?_
  refine kq (by rfl) (by decide) h 2 rfl (qZ 1 h rfl) (by first | rfl | assumption) (by omega) fun v4 w h=>?_
  refine cP h 6 rfl rfl ?_
  refine nS (PC.cons (by rfl) (PC.cons (by first | assumption | exact qY 1 h rfl | exact qY 2 h rfl) PC.nil)) (by rfl) ?_
  refine de h 0 rfl rfl (by exact jv (a:=[_,_]) (b:=[]) (qZ 2 h rfl) rfl rfl) rfl fun w h=>?_
  exact lf1 _ _ _ (h.pick [0,2,4] (by decide) rfl)
  refine du h fun g4 w h=>?_
  refine cP h 5 rfl rfl ?_
  refine fU h 5 rfl rfl (cP h 2 rfl rfl ?_)
  refine⟨?_,?_⟩
  refine kq (by rfl) (by decide) h 1 rfl (hv.hp h) (by first | rfl | assumption) (by omega) fun v2 w h=>?_
  refine cP h 5 rfl rfl ?_
  refine cP h 2 rfl rfl ?_
  refine lA h (by rfl) (by decide) (by rfl) (by decide) fun v3 w h=>?_
  refine cP h 6 rfl rfl ?_
  refine fU h 6 rfl rfl (kq (by rfl) (by decide) h 2 rfl (qZ 0 h rfl) (by first | rfl | assumption) (by omega) fun v4 w h=>?_)
  refine cP h 6 rfl rfl ?_
  refine nS (PC.cons (by rfl) (PC.cons (by first | assumption | exact qY 0 h rfl | exact qY 2 h rfl) PC.nil)) (by rfl) ?_
  refine de h 1 rfl rfl (by exact jv (a:=[_,_]) (b:=[]) (qZ 2 h rfl) rfl rfl) rfl fun w h=>?_
  exact lf1 _ _ _ (h.pick [1,2,4] (by decide) rfl)
  refine lA h (by rfl) (by decide) (by rfl) (by decide) fun v2 w h=>?_
  refine cP h 6 rfl rfl ?_
  refine fU h 6 rfl rfl (kq (by rfl) (by decide) h 2 rfl (hv.hp h) (by first | rfl | assumption) (by omega) fun v3 w h=>?_)
  refine cP h 6 rfl rfl ?_
  refine cP h 3 rfl rfl ?_
  refine kq (by rfl) (by decide) h 2 rfl (qZ 0 h rfl) (by first | rfl | assumption) (by omega) fun v4 w h=>?_
  refine cP h 6 rfl rfl ?_
  refine nS (PC.cons (by rfl) (PC.cons (by first | assumption | exact qY 0 h rfl | exact qY 2 h rfl) PC.nil)) (by rfl) ?_
  refine de h 1 rfl rfl (by exact jv (a:=[_,_]) (b:=[]) (qZ 2 h rfl) rfl rfl) rfl fun w h=>?_
  exact lf1 _ _ _ (h.pick [1,2,4] (by decide) rfl)
  refine⟨?_,?_⟩
  refine lA h (by rfl) (by decide) (by rfl) (by decide) fun v1 w h=>?_
  refine cP h 4 rfl rfl ?_
  refine fU h 4 rfl rfl ?_
  refine⟨?_,?_⟩
  refine It h fun v2 w h=>?_
  refine cP h 5 rfl rfl ?_
  refine fU h 5 rfl rfl (cP h 2 rfl rfl ?_)
  refine⟨?_,?_⟩
  refine kq (by rfl) (by decide) h 0 rfl (hv.hp h) (by first | rfl | assumption) (by omega) fun v3 w h=>?_
  refine cP h 5 rfl rfl ?_
  refine cP h 2 rfl rfl ?_
  refine⟨?_,?_⟩
  refine kq (by rfl) (by decide) h 0 rfl (qZ 1 h rfl) (by first | rfl | assumption) (by omega) fun v4 w h=>?_
  refine cP h 5 rfl rfl ?_
  refine nS (PC.cons (by rfl) (PC.cons (by first | assumption | exact qY 0 h rfl | exact qY 1 h rfl) PC.nil)) (by rfl) ?_
  refine du h fun g4 w h=>?_
  refine cP h 6 rfl rfl ?_
  refine fU h 6 rfl rfl (cP h 3 rfl rfl ?_)
  refine de h 0 rfl rfl (by exact jv (a:=[_,_]) (b:=[]) (qZ 1 h rfl) rfl rfl) rfl fun w h=>?_
  exact lf1 _ _ _ (h.pick [0,1,4] (by decide) rfl)
  refine du h fun g4 w h=>?_
  refine cP h 6 rfl rfl ?_
  refine fU h 6 rfl rfl (cP h 3 rfl rfl ?_)
  refine kq (by rfl) (by decide) h 1 rfl (qZ 2 h rfl) (by first | rfl | assumption) (by omega) fun v4 w h=>?_
  refine cP h 6 rfl rfl ?_
  refine nS (PC.cons (by rfl) (PC.cons (by first | assumption | exact qY 1 h rfl | exact qY 2 h rfl) PC.nil)) (by rfl) ?_
  refine de h 0 rfl rfl (by exact jv (a:=[_,_]) (b:=[]) (qZ 1 h rfl) rfl rfl) rfl fun w h=>?_
  exact lf1 _ _ _ (h.pick [0,1,4] (by decide) rfl)
  refine du h fun g4 w h=>?_
  refine cP h 6 rfl rfl ?_
  refine fU h 6 rfl rfl (cP h 3 rfl rfl ?_)
  refine kq (by rfl) (by decide) h 1 rfl (hv.hp h) (by first | rfl | assumption) (by omega) fun v3 w h=>?_
  refine cP h 6 rfl rfl ?_
  refine cP h 3 rfl rfl ?_
  refine kq (by rfl) (by decide) h 1 rfl (qZ 2 h rfl) (by first | rfl | assumption) (by omega) fun v4 w h=>?_
  refine cP h 6 rfl rfl ?_
  refine nS (PC.cons (by rfl) (PC.cons (by first | assumption | exact qY 1 h rfl | exact qY 2 h rfl) PC.nil)) (by rfl) ?_
  refine de h 0 rfl rfl (by exact jv (a:=[_,_]) (b:=[]) (qZ 1 h rfl) rfl rfl) rfl fun w h=>?_
  exact lf1 _ _ _ (h.pick [0,1,4] (by decide) rfl)
  refine du h fun g4 w h=>?_
  refine cP h 5 rfl rfl ?_
  refine fU h 5 rfl rfl (cP h 2 rfl rfl ?_)
  refine It h fun v2 w h=>?_
  refine cP h 6 rfl rfl ?_
  refine fU h 6 rfl rfl (cP h 3 rfl rfl ?_)
  refine kq (by rfl) (by decide) h 0 rfl (hv.hp h) (by first | rfl | assumption) (by omega) fun v3 w h=>?_
  refine cP h 6 rfl rfl ?_
  refine cP h 3 rfl rfl ?_
  refine kq (by rfl) (by decide) h 0 rfl (qZ 2 h rfl) (by first | rfl | assumption) (by omega) fun v4 w h=>?_
  refine cP h 6 rfl rfl ?_
  refine nS (PC.cons (by rfl) (PC.cons (by first | assumption | exact qY 0 h rfl | exact qY 2 h rfl) PC.nil)) (by rfl) ?_
  refine de h 1 rfl rfl (by exact jv (a:=[_,_]) (b:=[]) (qZ 0 h rfl) rfl rfl) rfl fun w h=>?_
  exact lf1 _ _ _ (h.pick [1,0,4] (by decide) rfl)
  refine du h fun g4 w h=>?_
  refine cP h 4 rfl rfl ?_
  refine fU h 4 rfl rfl (cP h 1 rfl rfl ?_)
  refine⟨?_,?_⟩
  refine It h fun v1 w h=>?_
  refine cP h 5 rfl rfl ?_
  refine fU h 5 rfl rfl (cP h 2 rfl rfl ?_)
  refine⟨?_,?_⟩
  refine kq (by rfl) (by decide) h 0 rfl (hv.hp h) (by first | rfl | assumption) (by omega) fun v2 w h=>?_
  refine cP h 5 rfl rfl ?_
  refine cP h 2 rfl rfl ?_
  refine lA h (by rfl) (by decide) (by rfl) (by decide) fun v3 w h=>?_
  refine cP h 6 rfl rfl ?_
  refine fU h 6 rfl rfl (kq (by rfl) (by decide) h 1 rfl (qZ 0 h rfl) (by first | rfl | assumption) (by omega) fun v4 w h=>?_)
  refine cP h 6 rfl rfl ?_
  refine nS (PC.cons (by rfl) (PC.cons (by first | assumption | exact qY 0 h rfl | exact qY 1 h rfl) PC.nil)) (by rfl) ?_
  refine de h 2 rfl rfl (by exact jv (a:=[_,_]) (b:=[]) (qZ 1 h rfl) rfl rfl) rfl fun w h=>?_
  exact lf1 _ _ _ (h.pick [2,1,4] (by decide) rfl)
  refine lA h (by rfl) (by decide) (by rfl) (by decide) fun v2 w h=>?_
  refine cP h 6 rfl rfl ?_
  refine fU h 6 rfl rfl (kq (by rfl) (by decide) h 1 rfl (hv.hp h) (by first | rfl | assumption) (by omega) fun v3 w h=>?_)
  refine cP h 6 rfl rfl ?_
  refine cP h 3 rfl rfl ?_
  refine kq (by rfl) (by decide) h 1 rfl (qZ 0 h rfl) (by first | rfl | assumption) (by omega) fun v4 w h=>?_
  refine cP h 6 rfl rfl ?_
  refine nS (PC.cons (by rfl) (PC.cons (by first | assumption | exact qY 0 h rfl | exact qY 1 h rfl) PC.nil)) (by rfl) ?_
  refine de h 2 rfl rfl (by exact jv (a:=[_,_]) (b:=[]) (qZ 1 h rfl) rfl rfl) rfl fun w h=>?_
  exact lf1 _ _ _ (h.pick [2,1,4] (by decide) rfl)
  refine lA h (by rfl) (by decide) (by rfl) (by decide) fun v1 w h=>?_
  refine cP h 5 rfl rfl ?_
  refine fU h 5 rfl rfl (It h fun v2 w h=>?_)
  refine cP h 6 rfl rfl ?_
  refine fU h 6 rfl rfl (cP h 3 rfl rfl ?_)
  refine kq (by rfl) (by decide) h 0 rfl (hv.hp h) (by first | rfl | assumption) (by omega) fun v3 w h=>?_
  refine cP h 6 rfl rfl ?_
  refine cP h 3 rfl rfl ?_
  refine kq (by rfl) (by decide) h 0 rfl (qZ 1 h rfl) (by first | rfl | assumption) (by omega) fun v4 w h=>?_
  refine cP h 6 rfl rfl ?_
  refine nS (PC.cons (by rfl) (PC.cons (by first | assumption | exact qY 0 h rfl | exact qY 1 h rfl) PC.nil)) (by rfl) ?_
  refine de h 2 rfl rfl (by exact jv (a:=[_,_]) (b:=[]) (qZ 0 h rfl) rfl rfl) rfl fun w h=>?_
  exact lf1 _ _ _ (h.pick [2,0,4] (by decide) rfl)
 | true=>
  refine ck (Eng.ld1 h 3 rfl rfl (gS (hv.hp h) ?_))
  refine cD (by omega) (cf (ck (Eng.ld1 h 0 rfl rfl (ck (tl h 0 rfl rfl rfl rfl fun w h=>?_)))))
  replace h:=h.dr
  refine di (fu h 0 rfl rfl ?_)
  refine ce h cq (cc2 h.ext) fun w h=>?_
  refine cP h 0 rfl rfl ?_
  refine vk ‹_› ?_
  refine di (tl h 0 rfl rfl rfl rfl fun w h=>?_)
  dsimp only[List.set]at h
  refine mE.mk ?_
  intro K hK
  have lf1:∀ g u w,Hp [] w0 w [bx g jA [bh p.1,bh p.2,u],ro gM 15 u (0+l.length+1) ([]++l.flatMap fW++fW ⟨r.op,r.ve,r.lim,r.m,r.a,r.b,wI r.st l,wI r.st l,0,([49],[49]),true⟩),bx g3 jA [bh [],bh [],.slice none 0 0]]->K (pr g 0) w:=by
   clear h
   intro g u w h
   rw[Nat.zero_add,List.nil_append]at h
   refine hK _ _ ?_
   clear hK
   have A:=fin (h.pick [1] (by decide) rfl)
   have cc2:=fun {W:World} (e:bK w W)=>iC (w0:=W) (A.ext e)
   rw[hbo]at cc2
   cases bo with
   | false=>
    refine dy h 0 rfl rfl ?_
    refine ce h dz (cc2 (.refl _)) fun w h=>?_
    refine d7 (co (u7 PC.nil (by rfl) ?_))
    refine de h 2 rfl rfl rfl rfl fun w h=>?_
    refine mj h 2 rfl rfl ?_
    dsimp only[List.set]at h
    exact bQ.mk (.inr ⟨hok,_,rfl,h.pick [1] (by decide) rfl⟩)
   | true=>
    refine dy h 0 rfl rfl ?_
    refine ce h dz (cc2 (.refl _)) fun w h=>?_
    refine ct (cf (dy h 0 rfl rfl ?_))
    refine de h 2 rfl rfl (by exact jv (a:=[_,_]) (b:=[]) (qZ 1 h rfl) rfl rfl) rfl fun w h=>?_
    refine mj h 2 rfl rfl ?_
    dsimp only[List.set]at h
    exact bQ.mk (.inr ⟨hok,_,rfl,h.pick [1] (by decide) rfl⟩)
  clear hK
  replace h:=h.dr
  refine di (fu h 3 rfl rfl ?_)
  refine di (iX h 3 rfl rfl (fu h 0 rfl rfl ?_))
  refine⟨?_,?_⟩
  refine It h fun v1 w h=>?_
  refine cP h 4 rfl rfl ?_
  refine fU h 4 rfl rfl (cP h 1 rfl rfl ?_)
  refine⟨?_,?_⟩
  refine kq (by rfl) (by decide) h 0 rfl (hv.hp h) (by first | rfl | assumption) (by omega) fun v2 w h=>?_
  refine cP h 4 rfl rfl ?_
  refine cP h 1 rfl rfl ?_
  refine⟨?_,?_⟩
  refine lA h (by rfl) (by decide) (by rfl) (by decide) fun v3 w h=>?_
  refine cP h 5 rfl rfl ?_
  refine fU h 5 rfl rfl ?_
  refine⟨?_,?_⟩
  refine kq (by rfl) (by decide) h 1 rfl (qZ 0 h rfl) (by first | rfl | assumption) (by omega) fun v4 w h=>?_
  refine cP h 5 rfl rfl ?_
  refine nS (PC.cons (by rfl) (PC.cons (by first | assumption | exact qY 0 h rfl | exact qY 1 h rfl) PC.nil)) (by rfl) ?_
  refine du h fun g4 w h=>?_
  refine cP h 6 rfl rfl ?_
  refine fU h 6 rfl rfl (cP h 3 rfl rfl ?_)
  refine de h 0 rfl rfl (by exact jv (a:=[_,_]) (b:=[]) (qZ 2 h rfl) rfl rfl) rfl fun w h=>?_
  exact lf1 _ _ _ (h.pick [0,2,4] (by decide) rfl)
  refine du h fun g4 w h=>?_
  refine cP h 6 rfl rfl ?_
  refine fU h 6 rfl rfl (cP h 3 rfl rfl ?_)
  refine kq (by rfl) (by decide) h 2 rfl (qZ 1 h rfl) (by first | rfl | assumption) (by omega) fun v4 w h=>?_
  refine cP h 6 rfl rfl ?_
  refine nS (PC.cons (by rfl) (PC.cons (by first | assumption | exact qY 1 h rfl | exact qY 2 h rfl) PC.nil)) (by rfl) ?_
  refine de h 0 rfl rfl (by exact jv (a:=[_,_]) (b:=[]) (qZ 2 h rfl) rfl rfl) rfl fun w h=>?_
  exact lf1 _ _ _ (h.pick [0,2,4] (by decide) rfl)
  refine du h fun g4 w h=>?_
  refine cP h 5 rfl rfl ?_
  refine fU h 5 rfl rfl (cP h 2 rfl rfl ?_)
  refine lA h (by rfl) (by decide) (by rfl) (by decide) fun v3 w h=>?_
  refine cP h 6 rfl rfl ?_
  refine fU h 6 rfl rfl (kq (by rfl) (by decide) h 2 rfl (qZ 0 h rfl) (by first | rfl | assumption) (by omega) fun v4 w h=>?_)
  refine cP h 6 rfl rfl ?_
  refine nS (PC.cons (by rfl) (PC.cons (by first | assumption | exact qY 0 h rfl | exact qY 2 h rfl) PC.nil)) (by rfl) ?_
  refine de h 1 rfl rfl (by exact jv (a:=[_,_]) (b:=[]) (qZ 2 h rfl) rfl rfl) rfl fun w h=>?_
  exact lf1 _ _ _ (h.pick [1,2,4] (by decide) rfl)
  refine⟨?_,?_⟩
  refine lA h (by rfl) (by decide) (by rfl) (by decide) fun v2 w h=>?_
  refine cP h 5 rfl rfl ?_
  refine fU h 5 rfl rfl ?_
  refine⟨?_,?_⟩
  refine kq (by rfl) (by decide) h 1 rfl (hv.hp h) (by first | rfl | assumption) (by omega) fun v3 w h=>?_
  refine cP h 5 rfl rfl ?_
  refine cP h 2 rfl rfl ?_
  refine⟨?_,?_⟩
  refine kq (by rfl) (by decide) h 1 rfl (qZ 0 h rfl) (by first | rfl | assumption) (by omega) fun v4 w h=>?_
  refine cP h 5 rfl rfl ?_
  refine nS (PC.cons (by rfl) (PC.cons (by first | assumption | exact qY 0 h rfl | exact qY 1 h rfl) PC.nil)) (by rfl) ?_
  refine du h fun g4 w h=>?_
  refine cP h 6 rfl rfl ?_
  refine fU h 6 rfl rfl (cP h 3 rfl rfl ?_)
  refine de h 0 rfl rfl (by exact jv (a:=[_,_]) (b:=[]) (qZ 2 h rfl) rfl rfl) rfl fun w h=>?_
  exact lf1 _ _ _ (h.pick [0,2,4] (by decide) rfl)
  refine du h fun g4 w h=>?_
  refine cP h 6 rfl rfl ?_
  refine fU h 6 rfl rfl (cP h 3 rfl rfl ?_)
  refine kq (by rfl) (by decide) h 2 rfl (qZ 1 h rfl) (by first | rfl | assumption) (by omega) fun v4 w h=>?_
  refine cP h 6 rfl rfl ?_
  refine nS (PC.cons (by rfl) (PC.cons (by first | assumption | exact qY 1 h rfl | exact qY 2 h rfl) PC.nil)) (by rfl) ?_
  refine de h 0 rfl rfl (by exact jv (a:=[_,_]) (b:=[]) (qZ 2 h rfl) rfl rfl) rfl fun w h=>?_
  exact lf1 _ _ _ (h.pick [0,2,4] (by decide) rfl)
  refine du h fun g4 w h=>?_
  refine cP h 6 rfl rfl ?_
  refine fU h 6 rfl rfl (cP h 3 rfl rfl ?_)
  refine kq (by rfl) (by decide) h 2 rfl (hv.hp h) (by first | rfl | assumption) (by omega) fun v3 w h=>?_
  refine cP h 6 rfl rfl ?_
  refine cP h 3 rfl rfl ?_
  refine kq (by rfl) (by decide) h 2 rfl (qZ 1 h rfl) (by first | rfl | assumption) (by omega) fun v4 w h=>?_
  refine cP h 6 rfl rfl ?_
  refine nS (PC.cons (by rfl) (PC.cons (by first | assumption | exact qY 1 h rfl | exact qY 2 h rfl) PC.nil)) (by rfl) ?_
  refine de h 0 rfl rfl (by exact jv (a:=[_,_]) (b:=[]) (qZ 2 h rfl) rfl rfl) rfl fun w h=>?_
  exact lf1 _ _ _ (h.pick [0,2,4] (by decide) rfl)
  refine du h fun g4 w h=>?_
  refine cP h 5 rfl rfl ?_
  refine fU h 5 rfl rfl (cP h 2 rfl rfl ?_)
  refine⟨?_,?_⟩
  refine kq (by rfl) (by decide) h 1 rfl (hv.hp h) (by first | rfl | assumption) (by omega) fun v2 w h=>?_
  refine cP h 5 rfl rfl ?_
  refine cP h 2 rfl rfl ?_
  refine lA h (by rfl) (by decide) (by rfl) (by decide) fun v3 w h=>?_
  refine cP h 6 rfl rfl ?_
  refine fU h 6 rfl rfl (kq (by rfl) (by decide) h 2 rfl (qZ 0 h rfl) (by first | rfl | assumption) (by omega) fun v4 w h=>?_)
  refine cP h 6 rfl rfl ?_
  refine nS (PC.cons (by rfl) (PC.cons (by first | assumption | exact qY 0 h rfl | exact qY 2 h rfl) PC.nil)) (by rfl) ?_
  refine de h 1 rfl rfl (by exact jv (a:=[_,_]) (b:=[]) (qZ 2 h rfl) rfl rfl) rfl fun w h=>?_
  exact lf1 _ _ _ (h.pick [1,2,4] (by decide) rfl)
  refine lA h (by rfl) (by decide) (by rfl) (by decide) fun v2 w h=>?_
  refine cP h 6 rfl rfl ?_
  refine fU h 6 rfl rfl (kq (by rfl) (by decide) h 2 rfl (hv.hp h) (by first | rfl | assumption) (by omega) fun v3 w h=>?_)
  refine cP h 6 rfl rfl ?_
  refine cP h 3 rfl rfl ?_
  refine kq (by rfl) (by decide) h 2 rfl (qZ 0 h rfl) (by first | rfl | assumption) (by omega) fun v4 w h=>?_
  refine cP h 6 rfl rfl ?_
  refine nS (PC.cons (by rfl) (PC.cons (by first | assumption | exact qY 0 h rfl | exact qY 2 h rfl) PC.nil)) (by rfl) ?_
  refine de h 1 rfl rfl (by exact jv (a:=[_,_]) (b:=[]) (qZ 2 h rfl) rfl rfl) rfl fun w h=>?_
  exact lf1 _ _ _ (h.pick [1,2,4] (by decide) rfl)
  refine⟨?_,?_⟩
  refine lA h (by rfl) (by decide) (by rfl) (by decide) fun v1 w h=>?_
  refine cP h 4 rfl rfl ?_
  refine fU h 4 rfl rfl ?_
  refine⟨?_,?_⟩
  refine It h fun v2 w h=>?_
  refine cP h 5 rfl rfl ?_
  refine fU h 5 rfl rfl (cP h 2 rfl rfl ?_)
  refine⟨?_,?_⟩
  refine kq (by rfl) (by decide) h 0 rfl (hv.hp h) (by first | rfl | assumption) (by omega) fun v3 w h=>?_
  refine cP h 5 rfl rfl ?_
  refine cP h 2 rfl rfl ?_
  refine⟨?_,?_⟩
  refine kq (by rfl) (by decide) h 0 rfl (qZ 1 h rfl) (by first | rfl | assumption) (by omega) fun v4 w h=>?_
  refine cP h 5 rfl rfl ?_
  refine nS (PC.cons (by rfl) (PC.cons (by first | assumption | exact qY 0 h rfl | exact qY 1 h rfl) PC.nil)) (by rfl) ?_
  refine du h fun g4 w h=>?_
  refine cP h 6 rfl rfl ?_
  refine fU h 6 rfl rfl (cP h 3 rfl rfl ?_)
  refine de h 0 rfl rfl (by exact jv (a:=[_,_]) (b:=[]) (qZ 1 h rfl) rfl rfl) rfl fun w h=>?_
  exact lf1 _ _ _ (h.pick [0,1,4] (by decide) rfl)
  refine du h fun g4 w h=>?_
  refine cP h 6 rfl rfl ?_
  refine fU h 6 rfl rfl (cP h 3 rfl rfl ?_)
  refine kq (by rfl) (by decide) h 1 rfl (qZ 2 h rfl) (by first | rfl | assumption) (by omega) fun v4 w h=>?_
  refine cP h 6 rfl rfl ?_
  refine nS (PC.cons (by rfl) (PC.cons (by first | assumption | exact qY 1 h rfl | exact qY 2 h rfl) PC.nil)) (by rfl) ?_
  refine de h 0 rfl rfl (by exact jv (a:=[_,_]) (b:=[]) (qZ 1 h rfl) rfl rfl) rfl fun w h=>?_
  exact lf1 _ _ _ (h.pick [0,1,4] (by decide) rfl)
  refine du h fun g4 w h=>?_
  refine cP h 6 rfl rfl ?_
  refine fU h 6 rfl rfl (cP h 3 rfl rfl ?_)
  refine kq (by rfl) (by decide) h 1 rfl (hv.hp h) (by first | rfl | assumption) (by omega) fun v3 w h=>?_
  refine cP h 6 rfl rfl ?_
  refine cP h 3 rfl rfl ?_
  refine kq (by rfl) (by decide) h 1 rfl (qZ 2 h rfl) (by first | rfl | assumption) (by omega) fun v4 w h=>?_
  refine cP h 6 rfl rfl ?_
  refine nS (PC.cons (by rfl) (PC.cons (by first | assumption | exact qY 1 h rfl | exact qY 2 h rfl) PC.nil)) (by rfl) ?_
  refine de h 0 rfl rfl (by exact jv (a:=[_,_]) (b:=[]) (qZ 1 h rfl) rfl rfl) rfl fun w h=>?_
  exact lf1 _ _ _ (h.pick [0,1,4] (by decide) rfl)
  refine du h fun g4 w h=>?_
  refine cP h 5 rfl rfl ?_
  refine fU h 5 rfl rfl (cP h 2 rfl rfl ?_)
  refine It h fun v2 w h=>?_
  refine cP h 6 rfl rfl ?_
  refine fU h 6 rfl rfl (cP h 3 rfl rfl ?_)
  refine kq (by rfl) (by decide) h 0 rfl (hv.hp h) (by first | rfl | assumption) (by omega) fun v3 w h=>?_
  refine cP h 6 rfl rfl ?_
  refine cP h 3 rfl rfl ?_
  refine kq (by rfl) (by decide) h 0 rfl (qZ 2 h rfl) (by first | rfl | assumption) (by omega) fun v4 w h=>?_
  refine cP h 6 rfl rfl ?_
  refine nS (PC.cons (by rfl) (PC.cons (by first | assumption | exact qY 0 h rfl | exact qY 2 h rfl) PC.nil)) (by rfl) ?_
  refine de h 1 rfl rfl (by exact jv (a:=[_,_]) (b:=[]) (qZ 0 h rfl) rfl rfl) rfl fun w h=>?_
  exact lf1 _ _ _ (h.pick [1,0,4] (by decide) rfl)
  refine du h fun g4 w h=>?_
  refine cP h 4 rfl rfl ?_
  refine fU h 4 rfl rfl (cP h 1 rfl rfl ?_)
  refine⟨?_,?_⟩
  refine It h fun v1 w h=>?_
  refine cP h 5 rfl rfl ?_
  refine fU h 5 rfl rfl (cP h 2 rfl rfl ?_)
  refine⟨?_,?_⟩
  refine kq (by rfl) (by decide) h 0 rfl (hv.hp h) (by first | rfl | assumption) (by omega) fun v2 w h=>?_
  refine cP h 5 rfl rfl ?_
  refine cP h 2 rfl rfl ?_
  refine lA h (by rfl) (by decide) (by rfl) (by decide) fun v3 w h=>?_
  refine cP h 6 rfl rfl ?_
  refine fU h 6 rfl rfl (kq (by rfl) (by decide) h 1 rfl (qZ 0 h rfl) (by first | rfl | assumption) (by omega) fun v4 w h=>?_)
  refine cP h 6 rfl rfl ?_
  refine nS (PC.cons (by rfl) (PC.cons (by first | assumption | exact qY 0 h rfl | exact qY 1 h rfl) PC.nil)) (by rfl) ?_
  refine de h 2 rfl rfl (by exact jv (a:=[_,_]) (b:=[]) (qZ 1 h rfl) rfl rfl) rfl fun w h=>?_
  exact lf1 _ _ _ (h.pick [2,1,4] (by decide) rfl)
  refine lA h (by rfl) (by decide) (by rfl) (by decide) fun v2 w h=>?_
  refine cP h 6 rfl rfl ?_
  refine fU h 6 rfl rfl (kq (by rfl) (by decide) h 1 rfl (hv.hp h) (by first | rfl | assumption) (by omega) fun v3 w h=>?_)
  refine cP h 6 rfl rfl ?_
  refine cP h 3 rfl rfl ?_
  refine kq (by rfl) (by decide) h 1 rfl (qZ 0 h rfl) (by first | rfl | assumption) (by omega) fun v4 w h=>?_
  refine cP h 6 rfl rfl ?_
  refine nS (PC.cons (by rfl) (PC.cons (by first | assumption | exact qY 0 h rfl | exact qY 1 h rfl) PC.nil)) (by rfl) ?_
  refine de h 2 rfl rfl (by exact jv (a:=[_,_]) (b:=[]) (qZ 1 h rfl) rfl rfl) rfl fun w h=>?_
  exact lf1 _ _ _ (h.pick [2,1,4] (by decide) rfl)
  refine lA h (by rfl) (by decide) (by rfl) (by decide) fun v1 w h=>?_
  refine cP h 5 rfl rfl ?_
  refine fU h 5 rfl rfl (It h fun v2 w h=>?_)
  refine cP h 6 rfl rfl ?_
  refine fU h 6 rfl rfl (cP h 3 rfl rfl ?_)
  refine kq (by rfl) (by decide) h 0 rfl (hv.hp h) (by first | rfl | assumption) (by omega) fun v3 w h=>?_
  refine cP h 6 rfl rfl ?_
  refine cP h 3 rfl rfl ?_
  refine kq (by rfl) (by decide) h 0 rfl (qZ 1 h rfl) (by first | rfl | assumption) (by omega) fun v4 w h=>?_
  refine cP h 6 rfl rfl ?_
  refine nS (PC.cons (by rfl) (PC.cons (by first | assumption | exact qY 0 h rfl | exact qY 1 h rfl) PC.nil)) (by rfl) ?_
  refine de h 2 rfl rfl (by exact jv (a:=[_,_]) (b:=[]) (qZ 0 h rfl) rfl rfl) rfl fun w h=>?_
  exact lf1 _ _ _ (h.pick [2,0,4] (by decide) rfl)
end Go.Proofs.YtnkmbjedcjcccaaGreatDoor
