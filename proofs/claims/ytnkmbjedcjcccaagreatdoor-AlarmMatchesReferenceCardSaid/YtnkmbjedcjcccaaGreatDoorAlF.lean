/-
  Contracts and plain lemmas. By an AI agent.
-/
import Derived.Test.YtnkmbjedcjcccaaGreatDoorAlA
import Derived.Test.YtnkmbjedcjcccaaGreatDoorSpecD
set_option linter.all false
namespace Go.Proofs.YtnkmbjedcjcccaaGreatDoor
open Tryz
open Go Go.Eng Go.Proofs Go.Num Go.RowKit
open Go.Alm (Ft Wt Sm VW VA)
set_option maxRecDepth 100000
section
variable{w0 w:World}{r:WR}{g:Nat}(hk:WRk r)
theorem LR{x a:Rat}(hx:r.we=tx x)(ha:r.a=tx a)(sx:SR 19 13 x)(sa:SR 4 4 a)(hf:AR r=(r.ru == Alm.Dn x a))(h:Hp [] w0 w [bx g gM (fW r)]):gP prog (.bool true) (pr g 0) w (BC w0 r):=by
 obtain⟨op,ve,lim,m',a',b',st,th,sn,we,ru⟩:=r
 simp only at hx ha hf
 subst hx ha
 have cc1:=fun {W:World} (e:bK w0 W)=>Jp (w0:=W) sx sa
 have hB:prog.underlying 4=some .bool:=underlying4
 rcases hw:Alm.Dn x a with _ | _
 ·rw[hw]at cc1 hf
  unfold gP
  refine bP (di (bP (iX h 0 rfl rfl (bP (di (bP (fu h 0 rfl rfl ?_)))))))
  refine bP (di (bP (fu h 0 rfl rfl ?_)))
  refine aP (ce h oB (cc1 h.ext) fun w h=>?_)
  refine FX ?_
  refine fU h 0 rfl rfl (bP (CT hB (d:=ru == false) rfl ?_))
  refine cG ?_
  exact bQ.mk ⟨h.ext,by rw[hf]⟩
 ·rw[hw]at cc1 hf
  unfold gP
  refine bP (di (bP (iX h 0 rfl rfl (bP (di (bP (fu h 0 rfl rfl ?_)))))))
  refine bP (di (bP (fu h 0 rfl rfl ?_)))
  refine aP (ce h oB (cc1 h.ext) fun w h=>?_)
  refine FX ?_
  refine fU h 0 rfl rfl (bP (CT hB (d:=ru == true) rfl ?_))
  refine cG ?_
  exact bQ.mk ⟨h.ext,by rw[hf]⟩
theorem Jr(hf:¬re r)(h:Hp [] w0 w [bx g gM (fW r)]):gP prog (.bool false) (pr g 0) w (BC w0 r):=by
 unfold gP
 refine cw (cw (cw (cw (cw (cw (aK (RM ?_)))))))
 refine cw (dh ?_)
 exact bQ.mk ⟨h.ext,by rw[mi hf]⟩
theorem LS(hn:DJ r)(hp:DK r){x:Rat}(hx:r.we=tx x)(hB:RB x)(h:Hp [] w0 w [bx g gM (fW r)]):el prog (.bool false) (pr g 0) w (BC w0 r):=by
 obtain⟨m,a,b,e1,e2,e3,sm,sa,sb,m0,m1,a0⟩:=hp
 have hiff:=GI e1 e2 e3 hx
 have lf5:=fun {w:World} sx hf h=>LR (w0:=w0) (w:=w) (g:=g) (r:=r) hx e2 sx (Sm.sr1 sa) hf h
 have lfF:=fun {w:World} hf h=>Jr (w0:=w0) (w:=w) (g:=g) (r:=r) hf h
 obtain⟨op,ve,lim,m',a',b',st,th,sn,we,ru⟩:=r
 obtain⟨n1,n2,n3,n4,n5,n6⟩:=hn
 simp only at e1 e2 e3 hx n1 n2 n3 n4 n5 n6
 subst e1 e2 e3 hx
 have cc3:=fun {W:World} (e:bK w0 W)=>Cm (w0:=W) (Sm.sr3 sb) (Sm.sr1 sm) (by decide) (by decide)
 have hbm:RB (b * m):=(SR.mul (Sm.sr3 sb) (Sm.sr1 sm)).rb (by decide) (by decide)
 have cc4:=fun {W:World} (_:bK w0 W)=>mh (w:=W) (n:=1) (by decide)
 have cc5:=fun {W:World} (_:bK w0 W)=>mh (w:=W) (n:=0) (by decide)
 have cc6:=fun {W:World} (_:bK w0 W)=>mh (w:=W) (n:=1000000) (by decide)
 have cc7:=fun {W:World} (_:bK w0 W)=>zj (w:=W) hbm (uD (n:=1) (by decide))
 have cc8:=fun {W:World} (_:bK w0 W)=>zj (w:=W) hB (uD (n:=0) (by decide))
 have cc9:=fun {W:World} (_:bK w0 W)=>zj (w:=W) hB (uD (n:=1000000) (by decide))
 have no:∀ {c:Prop},(VW 1000000 ⟨op,ve,lim,m,a,b,st,th,sn,x,ru⟩->c)->¬c->¬re ⟨op,ve,lim,tx m,tx a,tx b,st,th,sn,tx x,ru⟩:=fun h1 h2 h3=>h2 (h1 (hiff.1 h3))
 by_cases q3:ig (b * m) (qI 1)<=0
 rotate_left
 ·have hno:=no (fun h=>h.bm) (fun h=>q3 ((jz (b * m) (qI 1)).2 h))
  unfold el
  refine cf (ck (dy h 0 rfl rfl ?_))
  refine ck (dy h 0 rfl rfl ?_)
  refine ce h dN (cc3 h.ext) fun w h=>?_
  refine ce h cq (cc4 h.ext) fun w h=>?_
  refine ce h cx (cc7 h.ext) fun w h=>?_
  replace h:=h.dr
  refine di (fu h 0 rfl rfl ?_)
  refine ce h cq (cc5 h.ext) fun w h=>?_
  refine cP h 0 rfl rfl ?_
  refine ce h cx (cc8 h.ext) fun w h=>?_
  replace h:=h.dr
  refine di (fu h 0 rfl rfl ?_)
  refine ce h cq (cc6 h.ext) fun w h=>?_
  refine cP h 0 rfl rfl ?_
  refine ce h cx (cc9 h.ext) fun w h=>?_
  replace h:=h.dr
  refine wU (by omega) (cw (cw (dh (cw (cw (dh ?_))))))
  unfold gQ
  refine cw (cw (aK (dh ?_)))
  exact lfF hno h
 by_cases q1:0<=ig x (qI 0)
 rotate_left
 ·have hno:=no (fun h=>h.we0) (fun h=>q1 ((mg x (qI 0)).2 h))
  unfold el
  refine cf (ck (dy h 0 rfl rfl ?_))
  refine ck (dy h 0 rfl rfl ?_)
  refine ce h dN (cc3 h.ext) fun w h=>?_
  refine ce h cq (cc4 h.ext) fun w h=>?_
  refine ce h cx (cc7 h.ext) fun w h=>?_
  replace h:=h.dr
  refine di (fu h 0 rfl rfl ?_)
  refine ce h cq (cc5 h.ext) fun w h=>?_
  refine cP h 0 rfl rfl ?_
  refine ce h cx (cc8 h.ext) fun w h=>?_
  replace h:=h.dr
  refine di (fu h 0 rfl rfl ?_)
  refine ce h cq (cc6 h.ext) fun w h=>?_
  refine cP h 0 rfl rfl ?_
  refine ce h cx (cc9 h.ext) fun w h=>?_
  replace h:=h.dr
  refine oK (by omega) (bP (bP (F0 (by omega) (cG (cw (cw (dh ?_)))))))
  unfold gQ
  refine cw (cw (aK (dh ?_)))
  exact lfF hno h
 by_cases q2:ig x (qI 1000000)<=0
 rotate_left
 ·have hno:=no (fun h=>h.we1) (fun h=>q2 ((jz x (qI 1000000)).2 h))
  unfold el
  refine cf (ck (dy h 0 rfl rfl ?_))
  refine ck (dy h 0 rfl rfl ?_)
  refine ce h dN (cc3 h.ext) fun w h=>?_
  refine ce h cq (cc4 h.ext) fun w h=>?_
  refine ce h cx (cc7 h.ext) fun w h=>?_
  replace h:=h.dr
  refine di (fu h 0 rfl rfl ?_)
  refine ce h cq (cc5 h.ext) fun w h=>?_
  refine cP h 0 rfl rfl ?_
  refine ce h cx (cc8 h.ext) fun w h=>?_
  replace h:=h.dr
  refine di (fu h 0 rfl rfl ?_)
  refine ce h cq (cc6 h.ext) fun w h=>?_
  refine cP h 0 rfl rfl ?_
  refine ce h cx (cc9 h.ext) fun w h=>?_
  replace h:=h.dr
  refine oK (by omega) (bP (bP (zX (by omega) (cG (bP (bP (wU (by omega) (cG ?_))))))))
  unfold gQ
  refine cw (cw (aK (dh ?_)))
  exact lfF hno h
 have p1:=(mg x (qI 0)).1 q1
 have p2:=(jz x (qI 1000000)).1 q2
 have p3:=(jz (b * m) (qI 1)).1 q3
 have hpl:=fun {W:World} (_:bK w0 W)=>HD (w0:=W) hB
 by_cases hd:x.den ∣ 1000000000000
 rotate_left
 ·have hno:=no (fun h=>h.wd) hd
  rw[decide_eq_false hd]at hpl
  have ccp:=@hpl
  unfold el
  refine cf (ck (dy h 0 rfl rfl ?_))
  refine ck (dy h 0 rfl rfl ?_)
  refine ce h dN (cc3 h.ext) fun w h=>?_
  refine ce h cq (cc4 h.ext) fun w h=>?_
  refine ce h cx (cc7 h.ext) fun w h=>?_
  replace h:=h.dr
  refine di (fu h 0 rfl rfl ?_)
  refine ce h cq (cc5 h.ext) fun w h=>?_
  refine cP h 0 rfl rfl ?_
  refine ce h cx (cc8 h.ext) fun w h=>?_
  replace h:=h.dr
  refine di (fu h 0 rfl rfl ?_)
  refine ce h cq (cc6 h.ext) fun w h=>?_
  refine cP h 0 rfl rfl ?_
  refine ce h cx (cc9 h.ext) fun w h=>?_
  replace h:=h.dr
  refine oK (by omega) (bP (bP (zX (by omega) (cG (bP (bP (oK (by omega) (cG ?_))))))))
  unfold gQ
  refine bP (di (bP (fu h 0 rfl rfl ?_)))
  refine aP (ce h sR (ccp h.ext) fun w h=>?_)
  refine cG ?_
  exact lfF hno h
 rw[decide_eq_true hd]at hpl
 have ccp:=@hpl
 have sx:=zi p1 p2 hd
 have fin:AR ⟨op,ve,lim,tx m,tx a,tx b,st,th,sn,tx x,ru⟩=(ru == Alm.Dn x a):=by
  by_cases e:ru=Alm.Dn x a
  ·rw[Ck (hiff.2 ⟨n1,n2,n3,n4,n5,n6,sm,sa,sb,m0,m1,a0,p1,p2,hd,p3,e⟩),e,beq_self_eq_true]
  ·rw[mi (no (fun h=>h.ru) e)]
   exact(beq_eq_false_iff_ne.2 e).symm
 unfold el
 refine cf (ck (dy h 0 rfl rfl ?_))
 refine ck (dy h 0 rfl rfl ?_)
 refine ce h dN (cc3 h.ext) fun w h=>?_
 refine ce h cq (cc4 h.ext) fun w h=>?_
 refine ce h cx (cc7 h.ext) fun w h=>?_
 replace h:=h.dr
 refine di (fu h 0 rfl rfl ?_)
 refine ce h cq (cc5 h.ext) fun w h=>?_
 refine cP h 0 rfl rfl ?_
 refine ce h cx (cc8 h.ext) fun w h=>?_
 replace h:=h.dr
 refine di (fu h 0 rfl rfl ?_)
 refine ce h cq (cc6 h.ext) fun w h=>?_
 refine cP h 0 rfl rfl ?_
 refine ce h cx (cc9 h.ext) fun w h=>?_
 replace h:=h.dr
 refine oK (by omega) (bP (bP (zX (by omega) (cG (bP (bP (oK (by omega) (cG ?_))))))))
 unfold gQ
 refine bP (di (bP (fu h 0 rfl rfl ?_)))
 refine aP (ce h sR (ccp h.ext) fun w h=>?_)
 refine cG ?_
 exact lf5 sx fin h
theorem Js(hf:¬re r)(h:Hp [] w0 w [bx g gM (fW r)]):el prog (.bool true) (pr g 0) w (BC w0 r):=by
 unfold el
 refine co ?_
 exact bQ.mk ⟨h.ext,by rw[mi hf]⟩
theorem Jt(hf:¬re r)(h:Hp [] w0 w [bx g gM (fW r)]):eV prog (.bool true) (pr g 0) w (BC w0 r):=by
 unfold eV
 refine co ?_
 exact bQ.mk ⟨h.ext,by rw[mi hf]⟩
theorem Ju(hf:¬re r)(h:Hp [] w0 w [bx g gM (fW r)]):eo prog (.bool true) (pr g 0) w (BC w0 r):=by
 unfold eo
 refine co ?_
 exact bQ.mk ⟨h.ext,by rw[mi hf]⟩
include hk
set_option maxHeartbeats 1000000 in
theorem LU(hn:DJ r){m a b x:Rat}(e1:r.m=tx m)(e2:r.a=tx a)(e3:r.b=tx b)(sm:Sm 1 m)(sa:Sm 1 a)(sb:Sm 1000 b)(hx:r.we=tx x)(hB:RB x)(h:Hp [] w0 w [bx g gM (fW r)]):eV prog (.bool false) (pr g 0) w (BC w0 r):=by
 have lfF:=fun {w:World} hf h=>Js (w0:=w0) (w:=w) (g:=g) (r:=r) hf h
 have lfT:=fun {w:World} hp h=>LS (w0:=w0) (w:=w) (g:=g) (r:=r) hn hp hx hB h
 have k0:=Sa m
 have k1:=T4 m
 have k2:=Sa a
 rw[<-e1]at k0 k1
 rw[<-e2]at k2
 have cc1:∀ {W:World},bK w0 W->Calls prog 55 #[.int .i64 0,.int .i64 1] W (bQ fun r w'=>bK W w'/\r=.agg #[bh [48],bh [49]]):=fun {W} _=>by
  have:=mh (w:=W) (n:=0) (by decide)
  rw[show tx (qI 0)=([48],[49]) from M6]at this;exact this
 have cc2:∀ {W:World},bK w0 W->Calls prog 55 #[.int .i64 1,.int .i64 1] W (bQ fun r w'=>bK W w'/\r=.agg #[bh [49],bh [49]]):=fun {W} _=>by
  have:=mh (w:=W) (n:=1) (by decide)
  rw[show tx (qI 1)=([49],[49]) from Oe]at this;exact this
 by_cases m0:m=0
 ·have hno:¬re r:=fun h=>by
   obtain⟨m',a',b',q1,q2,q3,s1,s2,s3,q4,q5,q6⟩:=h.parts
   exact absurd m0 (by rw[eZ (e1.symm.trans q1)];exact q4)
  rw[decide_eq_true m0]at k0
  unfold eV
  refine cf ?_
  replace h:=h.dr
  refine di (fu h 0 rfl rfl ?_)
  refine ce h cq (cc1 h.ext) fun w h=>?_
  refine cP h 0 rfl rfl ?_
  refine vk ‹_› ?_
  refine cC (cC (aR (zW ?_)))
  refine cC (cG (cC (cC (aR (zW ?_)))))
  refine cC (cG ?_)
  exact lfF hno h
 rw[decide_eq_false m0]at k0
 by_cases m1:m=1
 ·have hno:¬re r:=fun h=>by
   obtain⟨m',a',b',q1,q2,q3,s1,s2,s3,q4,q5,q6⟩:=h.parts
   exact absurd m1 (by rw[eZ (e1.symm.trans q1)];exact q5)
  rw[decide_eq_true m1]at k1
  unfold eV
  refine cf ?_
  replace h:=h.dr
  refine di (fu h 0 rfl rfl ?_)
  refine ce h cq (cc1 h.ext) fun w h=>?_
  refine cP h 0 rfl rfl ?_
  refine rV ‹_› ?_
  refine cg (di (cg (fu h 0 rfl rfl ?_)))
  refine ah (ce h cq (cc2 h.ext) fun w h=>?_)
  refine wS ?_
  refine cP h 0 rfl rfl ?_
  refine cg (vk ‹_› ?_)
  refine dh (cC (cC (aR (zW ?_))))
  refine cC (cG ?_)
  exact lfF hno h
 rw[decide_eq_false m1]at k1
 by_cases a0:a=0
 ·have hno:¬re r:=fun h=>by
   obtain⟨m',a',b',q1,q2,q3,s1,s2,s3,q4,q5,q6⟩:=h.parts
   exact absurd a0 (by rw[eZ (e2.symm.trans q2)];exact q6)
  rw[decide_eq_true a0]at k2
  unfold eV
  refine cf ?_
  replace h:=h.dr
  refine di (fu h 0 rfl rfl ?_)
  refine ce h cq (cc1 h.ext) fun w h=>?_
  refine cP h 0 rfl rfl ?_
  refine rV ‹_› ?_
  refine cg (di (cg (fu h 0 rfl rfl ?_)))
  refine ah (ce h cq (cc2 h.ext) fun w h=>?_)
  refine wS ?_
  refine cP h 0 rfl rfl ?_
  refine cg (rV ‹_› ?_)
  refine dh (cg (di (cg (fu h 0 rfl rfl ?_))))
  refine ah (ce h cq (cc1 h.ext) fun w h=>?_)
  refine wS ?_
  refine cP h 0 rfl rfl ?_
  refine cg (vk ‹_› ?_)
  refine dh ?_
  exact lfF hno h
 rw[decide_eq_false a0]at k2
 unfold eV
 refine cf ?_
 replace h:=h.dr
 refine di (fu h 0 rfl rfl ?_)
 refine ce h cq (cc1 h.ext) fun w h=>?_
 refine cP h 0 rfl rfl ?_
 refine rV ‹_› ?_
 refine cg (di (cg (fu h 0 rfl rfl ?_)))
 refine ah (ce h cq (cc2 h.ext) fun w h=>?_)
 refine wS ?_
 refine cP h 0 rfl rfl ?_
 refine cg (rV ‹_› ?_)
 refine dh (cg (di (cg (fu h 0 rfl rfl ?_))))
 refine ah (ce h cq (cc1 h.ext) fun w h=>?_)
 refine wS ?_
 refine cP h 0 rfl rfl ?_
 refine cg (rV ‹_› ?_)
 refine dh ?_
 exact lfT ⟨m,a,b,e1,e2,e3,sm,sa,sb,m0,m1,a0⟩ h
set_option maxHeartbeats 1000000 in
theorem LV(hn:DJ r)(h:Hp [] w0 w [bx g gM (fW r)]):eo prog (.bool false) (pr g 0) w (BC w0 r):=by
 have lfF:=fun {w:World} hf h=>Jt (w0:=w0) (w:=w) (g:=g) (r:=r) hf h
 by_cases p1:∃ x,r.m=tx x/\Sm 1 x
 rotate_left
 ·have hno:¬re r:=fun h=>by
   obtain⟨m',a',b',q1,q2,q3,s1,s2,s3,q4,q5,q6⟩:=h.parts
   exact p1 ⟨_,q1,s1⟩
  have cc1:=fun {W:World} (_:bK w0 W)=>tg (w0:=W) (.inl rfl) hk.m p1
  unfold eo
  refine cf (ck (dy h 0 rfl rfl ?_))
  refine ce h dE (cc1 h.ext) fun w h=>?_
  refine d7 (aR (aR (aR (aR (aQ (aR (aR (aR (aR (aQ (aR (aR (aR (aR (aQ ?_)))))))))))))))
  exact lfF hno h
 have cc1:=fun {W:World} (_:bK w0 W)=>tf (w0:=W) (.inl rfl) p1
 by_cases p2:∃ x,r.a=tx x/\Sm 1 x
 rotate_left
 ·have hno:¬re r:=fun h=>by
   obtain⟨m',a',b',q1,q2,q3,s1,s2,s3,q4,q5,q6⟩:=h.parts
   exact p2 ⟨_,q2,s2⟩
  have cc2:=fun {W:World} (_:bK w0 W)=>tg (w0:=W) (.inl rfl) hk.a p2
  unfold eo
  refine cf (ck (dy h 0 rfl rfl ?_))
  refine ce h dE (cc1 h.ext) fun w h=>?_
  refine ct (ah (ck (ah (dy h 0 rfl rfl ?_))))
  refine ah (ce h dE (cc2 h.ext) fun w h=>?_)
  refine ah (d7 (aw (aR (aR (aR (aR (aQ (aR (aR (aR (aR (aQ ?_))))))))))))
  exact lfF hno h
 have cc2:=fun {W:World} (_:bK w0 W)=>tf (w0:=W) (.inl rfl) p2
 by_cases p3:∃ x,r.b=tx x/\Sm 1000 x
 rotate_left
 ·have hno:¬re r:=fun h=>by
   obtain⟨m',a',b',q1,q2,q3,s1,s2,s3,q4,q5,q6⟩:=h.parts
   exact p3 ⟨_,q3,s3⟩
  have cc3:=fun {W:World} (_:bK w0 W)=>tg (w0:=W) (.inr rfl) hk.b p3
  unfold eo
  refine cf (ck (dy h 0 rfl rfl ?_))
  refine ce h dE (cc1 h.ext) fun w h=>?_
  refine ct (ah (ck (ah (dy h 0 rfl rfl ?_))))
  refine ah (ce h dE (cc2 h.ext) fun w h=>?_)
  refine ah (ct (aw (ah (ck (ah (dy h 0 rfl rfl ?_))))))
  refine ah (ce h dE (cc3 h.ext) fun w h=>?_)
  refine ah (d7 (aw (aR (aR (aR (aR (aQ ?_)))))))
  exact lfF hno h
 have cc3:=fun {W:World} (_:bK w0 W)=>tf (w0:=W) (.inr rfl) p3
 have hv:=fun {W:World} (e:bK w0 W)=>eK (w:=W) hk.we.1 hk.we.2
 by_cases ho:kB r.we.1 r.we.2
 rotate_left
 ·have hno:¬re r:=fun h=>by
   obtain⟨x,hx,hB,_⟩:=h.wealth
   exact ho (by rw[hx];exact Ji hB)
  have cc4:∀ {W:World},bK w0 W->Calls prog 79 #[vR r.we] W (bQ fun r w'=>bK W w'/\r=.bool false):=fun {W} e=>by
   have:=hv e
   rw[jd ho]at this;exact this
  unfold eo
  refine cf (ck (dy h 0 rfl rfl ?_))
  refine ce h dE (cc1 h.ext) fun w h=>?_
  refine ct (ah (ck (ah (dy h 0 rfl rfl ?_))))
  refine ah (ce h dE (cc2 h.ext) fun w h=>?_)
  refine ah (ct (aw (ah (ck (ah (dy h 0 rfl rfl ?_))))))
  refine ah (ce h dE (cc3 h.ext) fun w h=>?_)
  refine ah (ct (aw (ah (ck (ah (dy h 0 rfl rfl ?_))))))
  refine ah (ce h cN (cc4 h.ext) fun w h=>?_)
  refine ah (d7 (aw ?_))
  exact lfF hno h
 have cc4:∀ {W:World},bK w0 W->Calls prog 79 #[vR r.we] W (bQ fun r w'=>bK W w'/\r=.bool true):=fun {W} e=>by
  have:=hv e
  rw[iu ho]at this;exact this
 obtain⟨x,hx,hB⟩:=GD ho
 obtain⟨m,e1,sm⟩:=p1
 obtain⟨a,e2,sa⟩:=p2
 obtain⟨b,e3,sb⟩:=p3
 have lfT:=fun {w:World} h=>LU (w0:=w0) (w:=w) (g:=g) (r:=r) hk hn e1 e2 e3 sm sa sb hx hB h
 unfold eo
 refine cf (ck (dy h 0 rfl rfl ?_))
 refine ce h dE (cc1 h.ext) fun w h=>?_
 refine ct (ah (ck (ah (dy h 0 rfl rfl ?_))))
 refine ah (ce h dE (cc2 h.ext) fun w h=>?_)
 refine ah (ct (aw (ah (ck (ah (dy h 0 rfl rfl ?_))))))
 refine ah (ce h dE (cc3 h.ext) fun w h=>?_)
 refine ah (ct (aw (ah (ck (ah (dy h 0 rfl rfl ?_))))))
 refine ah (ce h cN (cc4 h.ext) fun w h=>?_)
 refine ah (ct (aw ?_))
 exact lfT h
set_option maxHeartbeats 1000000 in
theorem DQ:Calls prog 47 #[vW r] w0 (BC w0 r):=by
 apply AP
 have lfF:=fun {w:World} {g:Nat} hf h=>Ju (w0:=w0) (w:=w) (g:=g) (r:=r) hf h
 have lfT:=fun {w:World} {g:Nat} hn h=>LV (w0:=w0) (w:=w) (g:=g) (r:=r) hk hn h
 clear hk
 obtain⟨op,ve,lim,m',a',b',st,th,sn,we,ru⟩:=r
 by_cases n1:0<=op/\op<=11
 rotate_left
 ·have cc1:=fun {W:World} (_:bK w0 W)=>uF (w:=W) n1
  unfold eW
  have h:=Hp.init [] w0
  refine ep h fun g1 w h=>?_
  refine ck (Eng.ld1 h 0 rfl rfl (ce h cY (cc1 h.ext) fun w h=>?_))
  refine d7 (aR (aR (aR (aR (aQ (aR (aR (aR (aR (aQ (aR (aR (aR (aR (aQ (aR (aR (aR (aR (aR (aR (aQ (aR (aR (aR (aR (aQ ?_)))))))))))))))))))))))))))
  exact lfF (fun h=>n1 h.nums.1) h
 have cc1:=fun {W:World} (_:bK w0 W)=>uE (w:=W) n1
 by_cases n2:0<=ve/\ve<=9
 rotate_left
 ·have cc2:=fun {W:World} (_:bK w0 W)=>uF (w:=W) n2
  unfold eW
  have h:=Hp.init [] w0
  refine ep h fun g1 w h=>?_
  refine ck (Eng.ld1 h 0 rfl rfl (ce h cY (cc1 h.ext) fun w h=>?_))
  refine ct (ah (ck (ah (Eng.ld1 h 0 rfl rfl (ah (ce h cY (cc2 h.ext) fun w h=>?_))))))
  refine ah (d7 (aw (aR (aR (aR (aR (aQ (aR (aR (aR (aR (aQ (aR (aR (aR (aR (aR (aR (aQ (aR (aR (aR (aR (aQ ?_))))))))))))))))))))))))
  exact lfF (fun h=>n2 h.nums.2.1) h
 have cc2:=fun {W:World} (_:bK w0 W)=>uE (w:=W) n2
 by_cases n3:0<=lim/\lim<=4398046511104
 rotate_left
 ·have cc3:=fun {W:World} (_:bK w0 W)=>uF (w:=W) n3
  unfold eW
  have h:=Hp.init [] w0
  refine ep h fun g1 w h=>?_
  refine ck (Eng.ld1 h 0 rfl rfl (ce h cY (cc1 h.ext) fun w h=>?_))
  refine ct (ah (ck (ah (Eng.ld1 h 0 rfl rfl (ah (ce h cY (cc2 h.ext) fun w h=>?_))))))
  refine ah (ct (aw (ah (ck (ah (Eng.ld1 h 0 rfl rfl (ah (ce h cY (cc3 h.ext) fun w h=>?_))))))))
  refine ah (d7 (aw (aR (aR (aR (aR (aQ (aR (aR (aR (aR (aR (aR (aQ (aR (aR (aR (aR (aQ ?_)))))))))))))))))))
  exact lfF (fun h=>n3 h.nums.2.2.1) h
 have cc3:=fun {W:World} (_:bK w0 W)=>uE (w:=W) n3
 by_cases n4: -1<=st/\st<=999
 rotate_left
 ·have cc4:=fun {W:World} (_:bK w0 W)=>uF (w:=W) n4
  unfold eW
  have h:=Hp.init [] w0
  refine ep h fun g1 w h=>?_
  refine ck (Eng.ld1 h 0 rfl rfl (ce h cY (cc1 h.ext) fun w h=>?_))
  refine ct (ah (ck (ah (Eng.ld1 h 0 rfl rfl (ah (ce h cY (cc2 h.ext) fun w h=>?_))))))
  refine ah (ct (aw (ah (ck (ah (Eng.ld1 h 0 rfl rfl (ah (ce h cY (cc3 h.ext) fun w h=>?_))))))))
  refine ah (ct (aw (ah (ck (ah (Eng.ld1 h 0 rfl rfl (ah (ce h cY (cc4 h.ext) fun w h=>?_))))))))
  refine ah (d7 (aw (aR (aR (aR (aR (aR (aR (aQ (aR (aR (aR (aR (aQ ?_))))))))))))))
  exact lfF (fun h=>n4 h.nums.2.2.2.1) h
 have cc4:=fun {W:World} (_:bK w0 W)=>uE (w:=W) n4
 by_cases n5:st<=th/\th<=999
 rotate_left
 ·have cc5:=fun {W:World} (_:bK w0 W)=>uF (w:=W) n5
  unfold eW
  have h:=Hp.init [] w0
  refine ep h fun g1 w h=>?_
  refine ck (Eng.ld1 h 0 rfl rfl (ce h cY (cc1 h.ext) fun w h=>?_))
  refine ct (ah (ck (ah (Eng.ld1 h 0 rfl rfl (ah (ce h cY (cc2 h.ext) fun w h=>?_))))))
  refine ah (ct (aw (ah (ck (ah (Eng.ld1 h 0 rfl rfl (ah (ce h cY (cc3 h.ext) fun w h=>?_))))))))
  refine ah (ct (aw (ah (ck (ah (Eng.ld1 h 0 rfl rfl (ah (ce h cY (cc4 h.ext) fun w h=>?_))))))))
  refine ah (ct (aw (ah (ck (ah (Eng.ld1 h 0 rfl rfl (ah (ck (ah (Eng.ld1 h 0 rfl rfl (ah (ce h cY (cc5 h.ext) fun w h=>?_))))))))))))
  refine ah (d7 (aw (aR (aR (aR (aR (aQ ?_)))))))
  exact lfF (fun h=>n5 h.nums.2.2.2.2.1) h
 have cc5:=fun {W:World} (_:bK w0 W)=>uE (w:=W) n5
 by_cases n6:0<=sn/\sn<=1000000
 rotate_left
 ·have cc6:=fun {W:World} (_:bK w0 W)=>uF (w:=W) n6
  unfold eW
  have h:=Hp.init [] w0
  refine ep h fun g1 w h=>?_
  refine ck (Eng.ld1 h 0 rfl rfl (ce h cY (cc1 h.ext) fun w h=>?_))
  refine ct (ah (ck (ah (Eng.ld1 h 0 rfl rfl (ah (ce h cY (cc2 h.ext) fun w h=>?_))))))
  refine ah (ct (aw (ah (ck (ah (Eng.ld1 h 0 rfl rfl (ah (ce h cY (cc3 h.ext) fun w h=>?_))))))))
  refine ah (ct (aw (ah (ck (ah (Eng.ld1 h 0 rfl rfl (ah (ce h cY (cc4 h.ext) fun w h=>?_))))))))
  refine ah (ct (aw (ah (ck (ah (Eng.ld1 h 0 rfl rfl (ah (ck (ah (Eng.ld1 h 0 rfl rfl (ah (ce h cY (cc5 h.ext) fun w h=>?_))))))))))))
  refine ah (ct (aw (ah (ck (ah (Eng.ld1 h 0 rfl rfl (ah (ce h cY (cc6 h.ext) fun w h=>?_))))))))
  refine ah (d7 (aw ?_))
  exact lfF (fun h=>n6 h.nums.2.2.2.2.2) h
 have cc6:=fun {W:World} (_:bK w0 W)=>uE (w:=W) n6
 unfold eW
 have h:=Hp.init [] w0
 refine ep h fun g1 w h=>?_
 refine ck (Eng.ld1 h 0 rfl rfl (ce h cY (cc1 h.ext) fun w h=>?_))
 refine ct (ah (ck (ah (Eng.ld1 h 0 rfl rfl (ah (ce h cY (cc2 h.ext) fun w h=>?_))))))
 refine ah (ct (aw (ah (ck (ah (Eng.ld1 h 0 rfl rfl (ah (ce h cY (cc3 h.ext) fun w h=>?_))))))))
 refine ah (ct (aw (ah (ck (ah (Eng.ld1 h 0 rfl rfl (ah (ce h cY (cc4 h.ext) fun w h=>?_))))))))
 refine ah (ct (aw (ah (ck (ah (Eng.ld1 h 0 rfl rfl (ah (ck (ah (Eng.ld1 h 0 rfl rfl (ah (ce h cY (cc5 h.ext) fun w h=>?_))))))))))))
 refine ah (ct (aw (ah (ck (ah (Eng.ld1 h 0 rfl rfl (ah (ce h cY (cc6 h.ext) fun w h=>?_))))))))
 refine ah (ct (aw ?_))
 exact lfT ⟨n1,n2,n3,n4,n5,n6⟩ h
end
abbrev jA:TypeId:=28
theorem DR{w0:World}{r:WR}(hE:En w0)(hk:WRk r):Calls prog 43 #[vW r] w0 (bQ fun v w'=>bK w0 w'/\v=.bool (!AR r)):=by
 have hf:=fun {W:World} (e:bK w0 W)=>Ol (w0:=W) (hE.ext e) hk
 cases hb:AR r with
 | false=>
  have cc1:∀ {W:World},bK w0 W->Calls prog 44 #[vW r] W (bQ fun v w'=>bK W w'/\v=.bool false):=fun {W} e=>by
   have:=hf e
   unfold BC at this
   rw[hb]at this;exact this
  apply qW
  unfold mw
  have h:=Hp.init [] w0
  refine ep h fun g1 w h=>?_
  refine dy h 0 rfl rfl ?_
  refine ce h vV (cc1 h.ext) fun w h=>?_
  refine d7 ?_
  exact bQ.mk ⟨h.ext,rfl⟩
 | true=>
  have cc1:∀ {W:World},bK w0 W->Calls prog 44 #[vW r] W (bQ fun v w'=>bK W w'/\v=.bool true):=fun {W} e=>by
   have:=hf e
   unfold BC at this
   rw[hb]at this;exact this
  apply qW
  unfold mw
  have h:=Hp.init [] w0
  refine ep h fun g1 w h=>?_
  refine dy h 0 rfl rfl ?_
  refine ce h vV (cc1 h.ext) fun w h=>?_
  refine ct ?_
  exact bQ.mk ⟨h.ext,rfl⟩
section
variable{w0:World}{v:Value}{l:List WR}(hE:En w0)(hv:dJ w0 15 v l.length (l.flatMap fW))(hk:∀ r∈l,WRk r)(hl:l.length<=9223372036854775807)
include hE hv hk hl
set_option maxHeartbeats 2000000 in
theorem Jv:Calls prog 77 #[v,.func (.func 43) #[] #[]] w0 (bQ fun r w'=>bK w0 w'/\∃ z:Int,r=.int .i64 z/\(z < 0↔∀ x∈l,re x)/\-1<=z/\z<=9223372036854775807):=by
 apply ji
 unfold fH
 have h:=Hp.init [] w0
 refine gS (hv.hp h) ?_
 refine jt.mk (fun i W=>∃ j:Nat,j<=l.length/\i=.int .i64 j/\(∀ x∈l.take j,re x)/\Hp [] w0 W [])
  (fun i _=>match i with | .int _ i'=>l.length - i'.toNat | _=>0) ⟨0,by omega,rfl,by simp,h⟩ ?_
 clear h
 rintro _ W ⟨j,hj,rfl,hall,h⟩
 by_cases hjl:j < l.length
 ·refine Exists.elim (p:=fun x=>l[j]?=some x) ⟨_,List.getElem?_eq_getElem hjl⟩ fun x hx=>?_
  have sx:iY (l.flatMap fW) (j * 15) (fW x):=cZ (f:=fW) (fun _=>rfl) hx
  have hxk:=hk x (List.mem_of_getElem? hx)
  by_cases a:re x
  ·have cc1:∀ {W:World},bK w0 W->Calls prog 43 #[vW x] W (bQ fun r w'=>bK W w'/\r=.bool false):=fun {W} e=>by
    have:=DR (w0:=W) (hE.ext e) hxk
    rw[Ck a]at this;exact this
   refine cy (by omega) (co (lU h ‹_› (by omega) fun zb zo zk zv zc=>?_))
   refine wD h ‹_› ‹_› (by rfl) ?_
   refine Cs h qX (cc1 h.ext) fun w h=>?_
   refine cf (cF (by omega) (by omega) ?_)
   refine⟨⟨j+1,by omega,rfl,fun y hy=>?_,h⟩,by show l.length - ((j:Int)+1).toNat < l.length - (j:Int).toNat;omega⟩
   rw[iA hx]at hy
   rcases List.mem_append.1 hy with hy | hy
   ·exact hall y hy
   ·simp at hy;subst hy;exact a
  ·have cc1:∀ {W:World},bK w0 W->Calls prog 43 #[vW x] W (bQ fun r w'=>bK W w'/\r=.bool true):=fun {W} e=>by
    have:=DR (w0:=W) (hE.ext e) hxk
    rw[mi a]at this;exact this
   refine cy (by omega) (co (lU h ‹_› (by omega) fun zb zo zk zv zc=>?_))
   refine wD h ‹_› ‹_› (by rfl) ?_
   refine Cs h qX (cc1 h.ext) fun w h=>?_
   refine co ?_
   exact bQ.mk ⟨h.ext,j,rfl,⟨fun h=>by omega,fun h=>absurd (h x (List.mem_of_getElem? hx)) a⟩,by omega,by omega⟩
 rw[List.take_of_length_le (by omega)]at hall
 refine cD (by omega) (cf ?_)
 exact bQ.mk ⟨h.ext,-1,rfl,⟨fun _=>hall,fun _=>by decide⟩,by decide,by decide⟩
theorem GO{b:Bool}(hb:b=true↔¬∀ x∈l,re x):Calls prog 42 #[v,.func (.func 43) #[] #[]] w0 (bQ fun r w'=>bK w0 w'/\r=.bool b):=by
 apply ix
 unfold eX
 have h:=Hp.init [] w0
 refine cu jj (Jv hE hv hk hl) ?_
 rintro _ w' ⟨x,z,rfl,hz,z1,z2⟩
 have h:=h.x x
 by_cases h0:z < 0
 ·have e:b=false:=by
   cases b
   ·rfl
   ·exact absurd (hz.1 h0) (hb.1 rfl)
  subst e
  refine jB (by omega) ?_
  exact bQ.mk ⟨h.ext,rfl⟩
 ·have e:b=true:=hb.2 fun x=>h0 (hz.2 x)
  subst e
  refine ft (by omega) ?_
  exact bQ.mk ⟨h.ext,rfl⟩
end
theorem wC:∀ {ws:List Wt},(∀ w∈ws,Sm 1 w.al)->SR (1+5 * ws.length) (1+4 * ws.length) (Alm.fL Alm.al ws):=by
 intro ws
 induction ws with
 | nil=>intro _;exact⟨by unfold Sz;decide,by unfold Sz;decide⟩
 | cons w ws ih=>
  intro h
  have h1:=ih fun v hv=>h v (List.mem_cons_of_mem _ hv)
  have h2:=Sm.sr1 (h w List.mem_cons_self)
  have:=SR.add (k:=5+5 * ws.length) h2 h1 (by omega) (by omega)
  exact SR.mono this (by rw[List.length_cons];omega) (by rw[List.length_cons];omega)
theorem DS{ws:List Wt}{j:Nat}{x:Wt}(h:ws[j]?=some x):Alm.fL Alm.al (ws.take (j+1))=Alm.fL Alm.al (ws.take j)+x.al:=by
 rw[iA h,Alm.xU]
 show _+(x.al+0)=_
 grind
section
variable{w0:World}{p:RS}{v:Value}{ws:List Wt}(hv:dJ w0 15 v ws.length ((ws.map wr).flatMap fW))(hk:∀ w∈ws,Sm 1 w.al)(hl:ws.length<=12)
include hv hk hl
set_option maxHeartbeats 2000000 in
theorem GP(hE:En w0):Calls prog 45 #[.agg #[bh p.1,bh p.2,v]] w0 (bQ fun r w'=>bK w0 w'/\r=vR (tx (Alm.fL Alm.al ws))):=by
 have z0:=hE.z0
 have ccm:=fun {W:World} (_:bK w0 W) {x:Rat}=>wB (w:=W) (p:=tx x)
 apply Bj
 unfold ur
 have h:=Hp.init [] w0
 refine ep h fun g1 w h=>?_
 refine du h fun g2 w h=>?_
 refine uJ h ‹_› (by rfl) ?_
 refine du h fun g3 w h=>?_
 refine de h 0 rfl rfl rfl rfl fun w h=>?_
 refine ck (Eng.ld1 h 2 rfl rfl (gS (hv.hp h) ?_))
 dsimp only[List.set]at h
 have e0:tx (Alm.fL Alm.al (ws.take 0))=([48],[49]):=M6
 refine jt.mk (fun i W=>∃ j:Nat,j<=ws.length/\i=.int .i64 j/\Hp [] w0 W [bx g3 tR (fR (tx (Alm.fL Alm.al (ws.take j)))),bx g2 tR [bh [],bh []]])
  (fun i _=>match i with | .int _ i'=>ws.length - i'.toNat | _=>0) ⟨0,by omega,rfl,by rw[e0];exact h.pick [0,1] (by decide) rfl⟩ ?_
 clear h
 rintro _ W ⟨j,hj,rfl,h⟩
 by_cases hjl:j < ws.length
 ·refine Exists.elim (p:=fun x=>ws[j]?=some x) ⟨_,List.getElem?_eq_getElem hjl⟩ fun x hx=>?_
  have hx':(ws.map wr)[j]?=some (wr x):=by rw[List.getElem?_map,hx];rfl
  have sx:iY ((ws.map wr).flatMap fW) (j * 15) (fW (wr x)):=cZ (f:=fW) (fun _=>rfl) hx'
  have hs:=wC (ws:=ws.take j) fun w hw=>hk w (List.mem_of_mem_take hw)
  rw[DD (by omega)]at hs
  have hs2:=DS hx
  have sa:=Sm.sr1 (hk x (List.mem_of_getElem? hx))
  have cc1:=fun {W:World} (e:bK w0 W)=>M7 (w:=W) (k:=99) hs sa (by omega) (by omega) (by omega) (by omega) (hE.hT.ext e)
  rw[<-hs2]at cc1
  refine cy (by omega) (co (lU h ‹_› (by omega) fun zb zo zk zv zc=>?_))
  refine wD h ‹_› ‹_› (by rfl) ?_
  refine du h fun g4 w h=>?_
  refine de h 0 rfl rfl rfl rfl fun w h=>?_
  refine dy h 1 rfl rfl ?_
  refine ck (dy h 0 rfl rfl ?_)
  refine ce h sB (cc1 h.ext) fun w h=>?_
  refine gN (ce h ew (ccm h.ext) fun w h=>?_)
  refine de h 1 rfl rfl rfl rfl fun w h=>?_
  refine cF (by omega) (by omega) ?_
  dsimp only[List.set]at h
  exact⟨⟨j+1,by omega,rfl,h.pick [1,2] (by decide) rfl⟩,by show ws.length - ((j:Int)+1).toNat < ws.length - (j:Int).toNat;omega⟩
 have hjl':j=ws.length:=by omega
 subst hjl'
 rw[List.take_length]at h
 refine cD (by omega) (cf (dy h 0 rfl rfl ?_))
 refine de h 1 rfl rfl rfl rfl fun w h=>?_
 refine mj h 1 rfl rfl ?_
 dsimp only[List.set]at h
 exact bQ.mk ⟨h.ext,rfl⟩
end
theorem iw:Enters prog 40:=enters_of func40 (by kernel_rfl) rfl
theorem Jw{g:Nat}{w:World}:wF prog 40 #[pr g 0] .returning w (fun e u' w'=>e=.returned (.tuple #[])/\u'=.returning/\w'=w):=by
 refine callsDIn_of_wpSIn (F:=Fence.wide) func40 rfl trivial fun c₀ cs hu=>?_
 apply wpSIn_seq
 apply wpSIn_region
 simp[wpOpsSIn,go_sem,recoverD,hu,Tryz.ntmps40,Exit.thenS]
 apply wpSIn_seq
 apply wpSIn_region
 simp[wpOpsSIn,go_sem,Tryz.ntmps40,Exit.thenS]
 refine wpSIn_cond (t:=false) (by simp[Act.eval,Array.replicate]) ?_
 simp only[Bool.false_eq_true,if_false]
 refine wpSIn_of_wpIn rfl (wpIn_skip ?_)
 cases c₀
 simp_all [bodyPostS,results,Tryz.results40]
theorem Ox{g:Nat}{w:World}{R:Ending->World->Prop}{t:TypeId}{v:Value}[One prog t](h:cM w g t [v])(hk:R (.returned v) w):Df prog 40 #[pr g 0] .returning w (fun w=>Rc prog t (pr g 0) w fun r0=>R (.returned r0) w) R:=by
 refine CallsDIn.mono (Jw (g:=g) (w:=w)) ?_
 rintro e u' w' ⟨rfl,rfl,rfl⟩
 exact⟨_,pX (P:=prog) (t:=t) h rfl,hk⟩
section
variable{w0:World}{p:RS}{v:Value}{ws:List Wt}(hv:dJ w0 15 v ws.length ((ws.map wr).flatMap fW))(hk:∀ w∈ws,Sm 1 w.al)(hl:ws.length<=12)
include hv hk hl
set_option maxHeartbeats 2000000 in
theorem DU:Calls prog 49 #[.agg #[bh p.1,bh p.2,v]] w0 (bQ fun r w'=>bK w0 w'/\r=vR (tx (Alm.fL Alm.al ws))):=by
 have cc0:∀ {W:World},bK w0 W->Calls prog 55 #[.int .i64 0,.int .i64 1] W (bQ fun r w'=>bK W w'/\r=.agg #[bh [48],bh [49]]):=fun {W} _=>by
  have:=mh (w:=W) (n:=0) (by decide)
  rw[show tx (qI 0)=([48],[49]) from M6]at this;exact this
 apply Bl
 unfold uu
 have h:=Hp.init [] w0
 refine ep h fun g1 w h=>?_
 refine du h fun g2 w h=>?_
 refine ce h cq (cc0 h.ext) fun w h=>?_
 refine du h fun g3 w h=>?_
 refine de h 0 rfl rfl rfl rfl fun w h=>?_
 dsimp only[List.set]at h
 have e0:tx (Alm.fL Alm.al (ws.take 0))=([48],[49]):=M6
 refine jt.mk (fun i W=>∃ j:Nat,j<=ws.length/\i=.int .i64 j/\Hp [] w0 W [bx g3 tR (fR (tx (Alm.fL Alm.al (ws.take j)))),bx g2 tR [bh [],bh []],bx g1 jA [bh p.1,bh p.2,v]])
  (fun i _=>match i with | .int _ i'=>ws.length - i'.toNat | _=>0) ⟨0,by omega,rfl,by rw[e0];exact h⟩ ?_
 clear h
 rintro _ W ⟨j,hj,rfl,h⟩
 by_cases hjl:j < ws.length
 ·refine Exists.elim (p:=fun x=>ws[j]?=some x) ⟨_,List.getElem?_eq_getElem hjl⟩ fun x hx=>?_
  have hx':(ws.map wr)[j]?=some (wr x):=by rw[List.getElem?_map,hx];rfl
  have sx:iY ((ws.map wr).flatMap fW) (j * 15) (fW (wr x)):=cZ (f:=fW) (fun _=>rfl) hx'
  have hs:=wC (ws:=ws.take j) fun w hw=>hk w (List.mem_of_mem_take hw)
  rw[DD (by omega)]at hs
  have hs2:=DS hx
  have sa:=Sm.sr1 (hk x (List.mem_of_getElem? hx))
  have cc1:=fun {W:World} (_:bK w0 W)=>Jn (w0:=W) (k:=99) hs sa (by omega) (by omega) (by omega) (by omega)
  rw[<-hs2]at cc1
  refine ck (Eng.ld1 h 2 rfl rfl (gS (hv.hp h) ?_))
  refine cy (by omega) (co ?_)
  replace h:=h.dr
  refine fu h 0 rfl rfl ?_
  refine di (iX h 2 rfl rfl (nT h ‹_› (by omega) fun zb zo zk zv zc=>?_))
  refine di (Sd h ‹_› ‹_› (by rfl) ?_)
  refine ce h fK (cc1 h.ext) fun w h=>?_
  refine de h 0 rfl rfl rfl rfl fun w h=>?_
  refine cF (by omega) (by omega) ?_
  dsimp only[List.set]at h
  exact⟨⟨j+1,by omega,rfl,h⟩,by show ws.length - ((j:Int)+1).toNat < ws.length - (j:Int).toNat;omega⟩
 have hjl':j=ws.length:=by omega
 subst hjl'
 rw[List.take_length]at h
 refine ck (Eng.ld1 h 2 rfl rfl (gS (hv.hp h) ?_))
 refine cD (by omega) (cf (dy h 0 rfl rfl ?_))
 refine de h 1 rfl rfl rfl rfl fun w h=>?_
 refine mj h 1 rfl rfl ?_
 dsimp only[List.set]at h
 exact bQ.mk ⟨h.ext,rfl⟩
end
def uI(p:RS)(l:List WR):Prop:=∃ B ws,p=tx B/\l=ws.map wr/\VA B ws
open Classical in
noncomputable def wu(p:RS)(l:List WR):Bool:=decide (uI p l)
theorem mC{p:RS}{l:List WR}(h:uI p l):wu p l=true:=by unfold wu;simp[h]
theorem kE{p:RS}{l:List WR}(h:¬uI p l):wu p l=false:=by unfold wu;simp[h]
theorem Jx{l:List WR}:(∀ r∈l,re r)->∃ ws:List Wt,l=ws.map wr/\∀ w∈ws,VW 1000000 w:=by
 induction l with
 | nil=>exact fun _=>⟨[],rfl,by simp⟩
 | cons r l ih=>
  intro h
  obtain⟨ws,e,h2⟩:=ih fun x hx=>h x (List.mem_cons_of_mem _ hx)
  obtain⟨w,hw,e2⟩:=h r List.mem_cons_self
  refine⟨w::ws,by rw[e,e2];rfl,fun x hx=>?_⟩
  rcases List.mem_cons.1 hx with rfl | hx
  ·exact hw
  ·exact h2 x hx
theorem Oy{a b:Wt}(h:wr a=wr b):a=b:=by
 obtain⟨a1,a2,a3,a4,a5,a6,a7,a8,a9,a10,a11⟩:=a
 obtain⟨b1,b2,b3,b4,b5,b6,b7,b8,b9,b10,b11⟩:=b
 simp only[wr,WR.mk.injEq]at h
 obtain⟨h1,h2,h3,h4,h5,h6,h7,h8,h9,h10,h11⟩:=h
 rw[h1,h2,h3,eZ h4,eZ h5,eZ h6,h7,h8,h9,eZ h10,h11]
theorem tj{a b:List Wt}(h:a.map wr=b.map wr):a=b:=List.map_inj_right (fun _ _ h=>Oy h) |>.1 h
structure Ak(w:World)(p:RS)(v:Value)(l:List WR):Prop where
 hp:yG p
 hv:dJ w 15 v l.length (l.flatMap fW)
 hk:∀ r∈l,WRk r
 hl:l.length<=1000000
theorem Ak.ext{w w':World}{p:RS}{v:Value}{l:List WR}(h:Ak w p v l)(x:bK w w'):Ak w' p v l:=⟨h.hp,h.hv.ext x,h.hk,h.hl⟩
abbrev vA(p:RS)(v:Value):Value:=.agg #[bh p.1,bh p.2,v]
set_option maxHeartbeats 4000000 in
theorem kF{w0:World}{p:RS}{v:Value}{l:List WR}(hE:En w0)(hA:Ak w0 p v l):Calls prog 13 #[vA p v] w0 (bQ fun r w'=>bK w0 w'/\r=.bool (wu p l)):=by
 obtain⟨hp,hv,hk,hl⟩:=hA
 have dfr:=fun {g:Nat} {w:World} {b:Bool} {R:Ending->World->Prop} (h:cM w g 4 [.bool b]) hk=>Ox (t:=4) (R:=R) h hk
 by_cases p1:∃ x,p=tx x/\Sm 1 x
 rotate_left
 ·have hno:¬uI p l:=fun⟨B,ws,e,_,h⟩=>p1 ⟨B,e,h.b⟩
  have cc1:=fun {W:World} (e:bK w0 W)=>vh (w0:=W) (hE.ext e) (.inl rfl) P3 hp p1
  rw[kE hno]
  apply jH iw
  unfold iB
  have h:=Hp.init [] w0
  refine ep h fun g1 w h=>?_
  refine du h fun g2 w h=>?_
  refine ck (dy h 1 rfl rfl ?_)
  refine ce h cR (cc1 h.ext) fun w h=>?_
  refine d7 (aR (aR (aR (aR (aQ (aR (aR (aR (aQ (co (tl h 0 rfl rfl rfl rfl fun w h=>?_)))))))))))
  dsimp only[List.set]at h
  exact dfr (h.get (i:=0) rfl) (bQ.mk ⟨h.ext,rfl⟩)
 have cc1:=fun {W:World} (e:bK w0 W)=>Sb (w0:=W) p1 (hE.ext e) (.inl rfl) P3
 by_cases p2:l.length<=12
 rotate_left
 ·have hno:¬uI p l:=fun⟨B,ws,e,e2,h⟩=>p2 (by rw[e2,List.length_map];exact h.len)
  rw[kE hno]
  apply jH iw
  unfold iB
  have h:=Hp.init [] w0
  refine ep h fun g1 w h=>?_
  refine du h fun g2 w h=>?_
  refine ck (dy h 1 rfl rfl ?_)
  refine ce h cR (cc1 h.ext) fun w h=>?_
  refine ct (ah (ck (ah (Eng.ld1 h 1 rfl rfl (ah (gS (hv.hp h) ?_))))))
  refine ah (eB (by omega) (aw (aR (aR (aR (aQ (co (tl h 0 rfl rfl rfl rfl fun w h=>?_))))))))
  dsimp only[List.set]at h
  exact dfr (h.get (i:=0) rfl) (bQ.mk ⟨h.ext,rfl⟩)
 by_cases p3:∀ r∈l,re r
 rotate_left
 ·have hno:¬uI p l:=fun⟨B,ws,e,e2,h⟩=>p3 fun r hr=>by
   rw[e2]at hr
   obtain⟨w,hw,rfl⟩:=List.mem_map.1 hr
   exact⟨w,h.ok w hw,rfl⟩
  have cc2:=fun {W:World} (e:bK w0 W)=>GO (w0:=W) (b:=true) (hE.ext e) (hv.ext e) hk (by omega) ⟨fun _=>p3,fun _=>rfl⟩
  rw[kE hno]
  apply jH iw
  unfold iB
  have h:=Hp.init [] w0
  refine ep h fun g1 w h=>?_
  refine du h fun g2 w h=>?_
  refine ck (dy h 1 rfl rfl ?_)
  refine ce h cR (cc1 h.ext) fun w h=>?_
  refine ct (ah (ck (ah (Eng.ld1 h 1 rfl rfl (ah (gS (hv.hp h) ?_))))))
  refine ah (d9 (by omega) (aw (ah (ck (ah (Eng.ld1 h 1 rfl rfl (ah (ce h dR (cc2 h.ext) fun w h=>?_))))))))
  refine aw (co (tl h 0 rfl rfl rfl rfl fun w h=>?_))
  dsimp only[List.set]at h
  exact dfr (h.get (i:=0) rfl) (bQ.mk ⟨h.ext,rfl⟩)
 have cc2:=fun {W:World} (e:bK w0 W)=>GO (w0:=W) (b:=false) (hE.ext e) (hv.ext e) hk (by omega) ⟨fun h=>(by cases h),fun h=>absurd p3 h⟩
 obtain⟨ws,rfl,hok⟩:=Jx p3
 obtain⟨B,rfl,hB⟩:=p1
 rw[List.length_map]at p2 hv
 have hal:∀ w∈ws,Sm 1 w.al:=fun w hw=>(hok w hw).al
 have cc3:=fun {W:World} (e:bK w0 W)=>GP (w0:=W) (p:=tx B) (hv.ext e) hal p2 (hE.ext e)
 have hs:=wC hal
 have hsr:RB (Alm.fL Alm.al ws):=hs.rb (by omega) (by omega)
 have cc4:=fun {W:World} (e:bK w0 W)=>GG (w:=W) hsr (Sm.rb hB (.inl rfl)) (hE.hT.ext e)
 have hv:dJ w0 15 v (ws.map wr).length ((ws.map wr).flatMap fW):=by rw[List.length_map];exact hv
 by_cases q:ig (Alm.fL Alm.al ws) B<=0
 ·have hy:uI (tx B) (ws.map wr):=⟨B,ws,rfl,rfl,hB,p2,hok,(jz _ _).1 q⟩
  rw[mC hy]
  have hl2:(ws.map wr).length<=12:=by rw[List.length_map];exact p2
  apply jH iw
  unfold iB
  have h:=Hp.init [] w0
  refine ep h fun g1 w h=>?_
  refine du h fun g2 w h=>?_
  refine ck (dy h 1 rfl rfl ?_)
  refine ce h cR (cc1 h.ext) fun w h=>?_
  refine ct (ah (ck (ah (Eng.ld1 h 1 rfl rfl (ah (gS (hv.hp h) ?_))))))
  refine ah (d9 (by omega) (aw (ah (ck (ah (Eng.ld1 h 1 rfl rfl (ah (ce h dR (cc2 h.ext) fun w h=>?_))))))))
  refine aw (cf ?_)
  replace h:=h.dr
  refine fu h 1 rfl rfl ?_
  refine di (fu h 1 rfl rfl ?_)
  refine ce h pa (cc3 h.ext) fun w h=>?_
  refine cP h 1 rfl rfl ?_
  refine ce h cz (cc4 h.ext) fun w h=>?_
  refine oK (by omega) (tl h 0 rfl rfl rfl rfl fun w h=>?_)
  dsimp only[List.set]at h
  exact dfr (h.get (i:=0) rfl) (bQ.mk ⟨h.ext,rfl⟩)
 ·have hno:¬uI (tx B) (ws.map wr):=fun⟨B',ws',e,e2,h⟩=>q ((jz _ _).2 (by
   obtain rfl:=eZ e
   obtain rfl:=tj e2
   exact h.sp))
  rw[kE hno]
  have hl2:(ws.map wr).length<=12:=by rw[List.length_map];exact p2
  apply jH iw
  unfold iB
  have h:=Hp.init [] w0
  refine ep h fun g1 w h=>?_
  refine du h fun g2 w h=>?_
  refine ck (dy h 1 rfl rfl ?_)
  refine ce h cR (cc1 h.ext) fun w h=>?_
  refine ct (ah (ck (ah (Eng.ld1 h 1 rfl rfl (ah (gS (hv.hp h) ?_))))))
  refine ah (d9 (by omega) (aw (ah (ck (ah (Eng.ld1 h 1 rfl rfl (ah (ce h dR (cc2 h.ext) fun w h=>?_))))))))
  refine aw (cf ?_)
  replace h:=h.dr
  refine fu h 1 rfl rfl ?_
  refine di (fu h 1 rfl rfl ?_)
  refine ce h pa (cc3 h.ext) fun w h=>?_
  refine cP h 1 rfl rfl ?_
  refine ce h cz (cc4 h.ext) fun w h=>?_
  refine wU (by omega) (tl h 0 rfl rfl rfl rfl fun w h=>?_)
  dsimp only[List.set]at h
  exact dfr (h.get (i:=0) rfl) (bQ.mk ⟨h.ext,rfl⟩)
end Go.Proofs.YtnkmbjedcjcccaaGreatDoor
