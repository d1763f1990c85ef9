/-
  Contracts and plain lemmas. By an AI agent.
-/
import Derived.Test.YtnkmbjedcjcccaaGreatDoorLAmT
import Derived.Test.YtnkmbjedcjcccaaGreatDoorAmN
import Derived.Test.YtnkmbjedcjcccaaGreatDoorTyp
set_option linter.all false
namespace Go.Proofs.YtnkmbjedcjcccaaGreatDoor
open Tryz
open Go Go.Eng Go.Proofs Go.Num Go.RowKit
open Go.Alm (Ft Wt Sm VW VA dn gO obs obs1 dD obsN fresh fL)
set_option maxRecDepth 100000
abbrev K5(p:RS):Prop:=p.1.length<=9223372036854775807/\p.2.length<=9223372036854775807
structure WRB(r:WR):Prop where
 op:eS r.op
 ve:eS r.ve
 lim:eS r.lim
 m:K5 r.m
 a:K5 r.a
 b:K5 r.b
 st:eS r.st
 th:eS r.th
 sn:eS r.sn
 we:K5 r.we
theorem rP{w0:World}{p:RS}(hp:K5 p):Calls prog 39 #[vR p] w0 (bQ fun r w'=>bK w0 w'/\r=vR (AU p)):=by
 obtain⟨a,b⟩:=p
 have h1:a.length<=9223372036854775807:=hp.1
 have h2:b.length<=9223372036854775807:=hp.2
 have e:∀ x:List UInt8,x.take 30=x.take (min (x.length:Int) 30).toNat:=fun x=>by
  by_cases h:x.length<=30
  ·rw[List.take_of_length_le h,List.take_of_length_le (by omega)]
  ·rw[show(min (x.length:Int) 30).toNat=30 by omega]
 apply Bi
 unfold um
 have h:=Hp.init [] w0
 refine ep h fun g1 w h=>?_
 refine du h fun g2 w h=>?_
 replace h:=h.dr
 refine di (iX h 1 rfl rfl (di (iX h 1 rfl rfl (GU (Fp (Nk (by omega) (by omega) (di (iX h 1 rfl rfl (di (iX h 1 rfl rfl (GU (Fp (Nk (by omega) (by omega) (nS (PC.cons (by rfl) (PC.cons (by rfl) PC.nil)) (by rfl) ?_))))))))))))))
 refine de h 0 rfl rfl rfl rfl fun w h=>?_
 refine mj h 0 rfl rfl ?_
 dsimp only[List.set]at h
 refine bQ.mk ⟨h.ext,?_⟩
 show _=Value.agg #[bh (a.take 30),bh (b.take 30)]
 rw[e a,e b]
theorem zI(p:RS):yG (AU p):=⟨by show(p.1.take 30).length<=_;rw[List.length_take];omega,by show(p.2.take 30).length<=_;rw[List.length_take];omega⟩
theorem GV{r:WR}(h:WRB r):WRk (JM r):=⟨h.op,h.ve,h.lim,zI _,zI _,zI _,h.st,h.th,h.sn,zI _⟩
theorem L3{l:List WR}{n:Nat}(h:∀ r∈l,WRB r):∀ r∈rO l n,WRk r:=fun r hr=>by
 unfold rO at hr
 obtain⟨x,hx,rfl⟩:=List.mem_map.1 hr
 exact GV (h x (List.mem_of_mem_take hx))
set_option maxHeartbeats 16000000 in
theorem JN{w0:World}{p:RS}{v:Value}{l:List WR}(hp:K5 p)(hv:dJ w0 15 v l.length (l.flatMap fW))(hk:∀ r∈l,WRB r)(hl:l.length<=9223372036854775807):Calls prog 12 #[vA p v] w0 (bQ fun o w'=>∃ x y z,o=vA (AU p) (.slice x y z)/\Hp [] w0 w' [ro gM 15 (.slice x y z) (rO l 13).length ((rO l 13).flatMap fW)]):=by
 obtain⟨va,vb,vc,rfl,_⟩:=hv.key
 have cc1:=fun {W:World} (_:bK w0 W)=>rP (w0:=W) hp
 apply Ew
 unfold xI
 have h:=Hp.init [] w0
 refine ep h fun g1 w h=>?_
 refine du h fun g2 w h=>?_
 refine ck (dy h 1 rfl rfl ?_)
 refine ce h jV (cc1 h.ext) fun w h=>?_
 refine u7 (PC.cons (by rfl) PC.nil) (by rfl) ?_
 refine du h fun g3 w h=>?_
 refine de h 0 rfl rfl rfl rfl fun w h=>?_
 dsimp only[List.set]at h
 clear cc1
 have h:=h.nil gM 15
 refine jt.mk (fun i W=>∃(j:Nat) (x:Option Addr) (y z:Nat),j<=l.length/\j<=13/\i=.int .i64 j/\Hp [] w0 W [ro gM 15 (.slice x y z) (rO l j).length ((rO l j).flatMap fW),bx g3 jA [bh (AU p).1,bh (AU p).2,.slice x y z],bx g2 jA [bh [],bh [],.slice none 0 0],bx g1 jA [bh p.1,bh p.2,.slice va vb vc]])
  (fun i _=>match i with | .int _ i'=>l.length - i'.toNat | _=>0) ⟨0,none,0,0,by omega,by omega,rfl,h⟩ ?_
 clear h
 rintro _ W ⟨j,x,y,z,hj,hj13,rfl,h⟩
 have hend:¬(j < l.length/\j < 13)->rO l j=rO l 13:=fun hc=>by
  unfold rO
  by_cases h4:j=13
  ·rw[h4]
  ·rw[List.take_of_length_le (by omega),List.take_of_length_le (by omega)]
 by_cases hjl:j < l.length
 rotate_left
 ·rw[hend (by omega)]at h
  refine ck (Eng.ld1 h 3 rfl rfl (gS (hv.hp h) ?_))
  refine cD (by omega) (aK (aK (aw (cf (dy h 1 rfl rfl ?_)))))
  refine de h 2 rfl rfl rfl rfl fun w h=>?_
  refine mj h 2 rfl rfl ?_
  dsimp only[List.set]at h
  exact bQ.mk ⟨_,_,_,rfl,h.pick [0] (by decide) rfl⟩
 by_cases hj3:j < 13
 rotate_left
 ·rw[hend (by omega)]at h
  refine ck (Eng.ld1 h 3 rfl rfl (gS (hv.hp h) ?_))
  refine cy (by omega) (aP (aP (cD (by omega) (aQ (cf (dy h 1 rfl rfl ?_))))))
  refine de h 2 rfl rfl rfl rfl fun w h=>?_
  refine mj h 2 rfl rfl ?_
  dsimp only[List.set]at h
  exact bQ.mk ⟨_,_,_,rfl,h.pick [0] (by decide) rfl⟩
 refine Exists.elim (p:=fun x=>l[j]?=some x) ⟨_,List.getElem?_eq_getElem hjl⟩ fun r hx=>?_
 have sx:iY (l.flatMap fW) (j * 15) (fW r):=cZ (f:=fW) (fun _=>rfl) hx
 have hkr:=hk r (List.mem_of_getElem? hx)
 have hcl:=D3 l j
 have cc1:=fun {W:World} (_:bK w0 W)=>rP (w0:=W) hkr.m
 have cc2:=fun {W:World} (_:bK w0 W)=>rP (w0:=W) hkr.a
 have cc3:=fun {W:World} (_:bK w0 W)=>rP (w0:=W) hkr.b
 have cc4:=fun {W:World} (_:bK w0 W)=>rP (w0:=W) hkr.we
 refine ck (Eng.ld1 h 3 rfl rfl (gS (hv.hp h) ?_))
 refine cy (by omega) (aP (aP (cy (by omega) (aQ (co (ck (Eng.ld1 h 3 rfl rfl (lU h ‹_› (by omega) fun zb zo zk zv zc=>?_))))))))
 refine wD h ‹_› ‹_› (by rfl) ?_
 refine du h fun g4 w h=>?_
 refine de h 0 rfl rfl rfl rfl fun w h=>?_
 refine ck (dy h 0 rfl rfl ?_)
 refine ce h jV (cc1 h.ext) fun w h=>?_
 refine ck (de h 0 rfl rfl rfl rfl fun w h=>?_)
 refine ck (dy h 0 rfl rfl ?_)
 refine ce h jV (cc2 h.ext) fun w h=>?_
 refine ck (de h 0 rfl rfl rfl rfl fun w h=>?_)
 refine ck (dy h 0 rfl rfl ?_)
 refine ce h jV (cc3 h.ext) fun w h=>?_
 refine ck (de h 0 rfl rfl rfl rfl fun w h=>?_)
 dsimp only[List.set]at h
 refine ck (dy h 0 rfl rfl ?_)
 refine ce h jV (cc4 h.ext) fun w h=>?_
 refine ck (de h 0 rfl rfl rfl rfl fun w h=>?_)
 refine ck (Eng.ld1 h 2 rfl rfl (dy h 0 rfl rfl ?_))
 refine lA h (by rfl) (by decide) (by rfl) (by decide) fun v1 w h=>?_
 refine kq (by rfl) (by decide) h 2 rfl (qZ 0 h rfl) (by first | rfl | assumption) (by omega) fun v2 w h=>?_
 refine ck (HH h 3 rfl (qZ 2 h rfl) rfl fun w h=>?_)
 refine cF (by omega) (by omega) ?_
 dsimp only[List.set]at h
 refine Exists.elim (qZ 2 h rfl).key fun x' hx'=>Exists.elim hx' fun y' hx'=>Exists.elim hx' fun z' hx'=>?_
 have hx':=hx'.1
 subst hx'
 refine⟨⟨j+1,x',y',z',by omega,by omega,rfl,?_⟩,by show l.length - ((j:Int)+1).toNat < l.length - (j:Int).toNat;omega⟩
 rw[HI hx,List.length_append,List.flatMap_append]
 exact h.drop 2
theorem JO{w0 w':World}(e:bK w0 w'):Hp [] w0 w' [ro gM 15 (.slice none 0 0) 0 [],ro 3 1 (.slice none 0 0) 0 []]:=(((Hp.init [] w0).x e).nil 3 1).nil gM 15
def U1(p:RS)(P:RS)(E:Int):Prop:=yG P/\∀ W,En W->
 Calls prog 17 #[vR p] W (bQ fun r w'=>bK W w'/\r=.tuple #[vA P (.slice none 0 0),.int .i64 E])/\Calls prog 18 #[vR p] W (bQ fun r w'=>bK W w'/\r=.tuple #[vA P (.slice none 0 0),.int .i64 E])
theorem HJ{p:RS}(hp:yG p):∃ P E,U1 p P E:=by
 rcases Bool.eq_false_or_eq_true (wu p []) with h | h
 ·refine⟨p,0,hp,fun W hE=>?_⟩
  have a:=zJ (w0:=W) hE hp
  have b:=G1 (w0:=W) hp
  rw[h]at a b
  exact⟨a,b⟩
 ·refine⟨([],[]),280,⟨Nat.zero_le _,Nat.zero_le _⟩,fun W hE=>?_⟩
  have a:=zJ (w0:=W) hE hp
  have b:=G1 (w0:=W) hp
  rw[h]at a b
  exact⟨a,b⟩
def U2(p:RS)(l:List WR)(P:RS)(E:Int):Prop:=∀ W v,En W->Ak W p v l->
 Calls prog 19 #[vA p v] W (bQ fun r w'=>bK W w'/\r=.tuple #[vR P,.int .i64 E])/\Calls prog 20 #[vA p v] W (bQ fun r w'=>bK W w'/\r=.tuple #[vR P,.int .i64 E])
theorem HK(p:RS)(l:List WR):∃ P E,U2 p l P E:=by
 by_cases h:uI p l
 ·obtain⟨B,ws,rfl,rfl,hV⟩:=h
  exact⟨_,_,fun W v hE hA=>⟨G2 hA hV hE,J6 hA hV⟩⟩
 ·exact⟨_,_,fun W v hE hA=>⟨Mq hA hE h,J5 hA h⟩⟩
def U3(p:RS)(l:List WR)(r:WR)(P:RS)(L:List WR)(E:Int):Prop:=(yG P/\(∀ x∈L,WRk x)/\L.length<=1000000)/\∀ W v,En W->Ak W p v l->
 Calls prog 22 #[vA p v,vW r] W (bQ fun o w'=>∃ x y z,o=.tuple #[vA P (.slice x y z),.int .i64 E]/\Hp [] W w' [ro gM 15 (.slice x y z) L.length (L.flatMap fW)])/\
 Calls prog 23 #[vA p v,vW r] W (bQ fun o w'=>∃ x y z,o=.tuple #[vA P (.slice x y z),.int .i64 E]/\Hp [] W w' [ro gM 15 (.slice x y z) L.length (L.flatMap fW)])
theorem QS(s:Int)(hs:eS s):∀ l:List WR,(∀ r∈l,WRk r)->eS (wI s l):=by
 intro l
 induction l generalizing s with
 | nil=>exact fun _=>hs
 | cons r l ih=>
  intro h
  unfold wI
  rw[List.foldl_cons]
  have hr:=(h r List.mem_cons_self).th
  refine ih (max s r.th) ?_ fun x hx=>h x (List.mem_cons_of_mem _ hx)
  omega
theorem S5{l:List WR}{r:WR}(hl:∀ x∈l,WRk x)(hr:WRk r):WRk (nw l r):=by
 have h:=QS r.st hr.st l hl
 exact⟨hr.op,hr.ve,hr.lim,hr.m,hr.a,hr.b,h,h,by show eS 0;decide,by show yG ([49],[49]);decide⟩
theorem JP{p:RS}{l:List WR}{r:WR}(hp:yG p)(hl:∀ x∈l,WRk x)(hn:l.length<=1000)(hr:WRk r):∃ P L E,U3 p l r P L E:=by
 have er:∀ {f:Nat} {W:World} {v:Value},Calls prog f #[vA p v,vW r] W (bQ fun o w'=>bK W w'/\o=.tuple #[vA ([],[]) (.slice none 0 0),.int .i64 280])->
  Calls prog f #[vA p v,vW r] W (bQ fun o w'=>∃ x y z,o=.tuple #[vA ([],[]) (.slice x y z),.int .i64 280]/\Hp [] W w' [ro gM 15 (.slice x y z) ([]:List WR).length (([]:List WR).flatMap fW)]):=fun h=>h.mono fun en W' h=>by
  obtain⟨o,rfl,e,rfl⟩:=h
  exact⟨_,rfl,none,0,0,rfl,(JO e).pick [0] (by decide) rfl⟩
 by_cases h:uI p l
 ·rcases Bool.eq_false_or_eq_true (wu p (l++[nw l r])) with hb | hb
  ·refine⟨p,l++[nw l r],0,⟨hp,fun x hx=>?_,by rw[List.length_append];show l.length+1<=_;omega⟩,fun W v hE hA=>⟨?_,?_⟩⟩
   ·rcases List.mem_append.1 hx with hx | hx
    ·exact hl x hx
    ·rw[List.mem_singleton.1 hx];exact S5 hl hr
   ·refine(nA hE hA hr).mono fun en W' h'=>?_
    obtain⟨o,rfl,h' | ⟨_,u,rfl,h'⟩⟩:=h'
    ·exact absurd h h'.1
    ·obtain⟨a,b,c,rfl,_⟩:=(h'.sl (i:=0) rfl).key
     exact⟨_,rfl,a,b,c,by rw[hb];rfl,by rw[List.length_append];exact h'⟩
   ·refine(rU hA hr).mono fun en W' h'=>?_
    obtain⟨o,rfl,h' | ⟨_,u,rfl,h'⟩⟩:=h'
    ·exact absurd h h'.1
    ·obtain⟨a,b,c,rfl,_⟩:=(h'.sl (i:=0) rfl).key
     exact⟨_,rfl,a,b,c,by rw[hb];rfl,by rw[List.length_append];exact h'⟩
  ·refine⟨([],[]),[],280,⟨⟨Nat.zero_le _,Nat.zero_le _⟩,by simp,by simp⟩,fun W v hE hA=>⟨er ?_,er ?_⟩⟩
   ·refine(nA hE hA hr).mono fun en W' h'=>?_
    obtain⟨o,rfl,h' | ⟨_,u,rfl,h'⟩⟩:=h'
    ·exact absurd h h'.1
    ·exact⟨_,rfl,h'.ext,by rw[hb];rfl⟩
   ·refine(rU hA hr).mono fun en W' h'=>?_
    obtain⟨o,rfl,h' | ⟨_,u,rfl,h'⟩⟩:=h'
    ·exact absurd h h'.1
    ·exact⟨_,rfl,h'.ext,by rw[hb];rfl⟩
 ·refine⟨([],[]),[],280,⟨⟨Nat.zero_le _,Nat.zero_le _⟩,by simp,by simp⟩,fun W v hE hA=>⟨er ?_,er ?_⟩⟩
  ·refine(nA hE hA hr).mono fun en W' h'=>?_
   obtain⟨o,rfl,h' | ⟨h2,_⟩⟩:=h'
   ·exact⟨_,rfl,h'.2⟩
   ·exact absurd h2 h
  ·refine(rU hA hr).mono fun en W' h'=>?_
   obtain⟨o,rfl,h' | ⟨h2,_⟩⟩:=h'
   ·exact⟨_,rfl,h'.2⟩
   ·exact absurd h2 h
def U4(p:RS)(l:List WR)(fl:List Ft)(P:RS)(L:List WR)(rg:List Nat)(E:Int):Prop:=(yG P/\(∀ x∈L,WRk x)/\L.length<=1000000/\rg.length<=1000000/\∀ i∈rg,i<=1000000)/\∀ W v fv,En W->Ak W p v l->Fk W fv fl->
 Calls prog 24 #[vA p v,fv] W (bQ fun o w'=>∃ x y z x' y' z',o=.tuple #[vA P (.slice x y z),.slice x' y' z',.int .i64 E]/\Hp [] W w' [ro gM 15 (.slice x y z) L.length (L.flatMap fW),ro 3 1 (.slice x' y' z') rg.length (rg.flatMap fN)])/\
 Calls prog 25 #[vA p v,fv] W (bQ fun o w'=>∃ x y z x' y' z',o=.tuple #[vA P (.slice x y z),.slice x' y' z',.int .i64 E]/\Hp [] W w' [ro gM 15 (.slice x y z) L.length (L.flatMap fW),ro 3 1 (.slice x' y' z') rg.length (rg.flatMap fN)])
theorem JQ{p:RS}{l:List WR}{fl:List Ft}(hp:yG p)(hl:l.length<=1000):∃ P L rg E,U4 p l fl P L rg E:=by
 have er:∀ {f:Nat} {W:World} {v fv:Value},Calls prog f #[vA p v,fv] W (bQ fun o w'=>bK W w'/\o=J0)->
  Calls prog f #[vA p v,fv] W (bQ fun o w'=>∃ x y z x' y' z',o=.tuple #[vA ([],[]) (.slice x y z),.slice x' y' z',.int .i64 280]/\Hp [] W w' [ro gM 15 (.slice x y z) ([]:List WR).length (([]:List WR).flatMap fW),ro 3 1 (.slice x' y' z') ([]:List Nat).length (([]:List Nat).flatMap fN)]):=fun h=>h.mono fun en W' h=>by
  obtain⟨o,rfl,e,rfl⟩:=h
  exact⟨_,rfl,none,0,0,none,0,0,rfl,JO e⟩
 have eb:yG (([],[]):RS)/\(∀ x∈([]:List WR),WRk x)/\([]:List WR).length<=1000000/\([]:List Nat).length<=1000000/\∀ i∈([]:List Nat),i<=1000000:=⟨⟨Nat.zero_le _,Nat.zero_le _⟩,by simp,by simp,by simp,by simp⟩
 by_cases h:uI p l/\tC fl
 ·obtain⟨⟨B,ws,rfl,rfl,hVA⟩,hVF⟩:=h
  by_cases hO:VA B (obs ws fl)
  ·have hol:=Alm.qB ws fl
   refine⟨tx B,(obs ws fl).map wr,dD ws (obs ws fl) 0,0,⟨hp,fun x hx=>?_,by rw[List.length_map];have:=hO.len;omega,by have:=Alm.nf ws (obs ws fl) 0;have:=hVA.len;omega,fun i hi=>?_⟩,fun W v fv hE hA hF=>⟨?_,?_⟩⟩
   ·obtain⟨z,hz,rfl⟩:=List.mem_map.1 hx
    exact Cx (hO.ok z hz) (by decide)
   ·obtain⟨j,z,u,e,h2,_⟩:=Alm.BZ hi
    have:=(List.getElem?_eq_some_iff.1 h2).1
    have:=hVA.len
    omega
   ·refine(Fy hE hA hF hVA hVF).mono fun en W' h'=>?_
    obtain⟨o,rfl,h' | ⟨_,u,rv,rfl,h'⟩⟩:=h'
    ·exact absurd hO h'.1
    ·obtain⟨a,b,c,rfl,_⟩:=(h'.sl (i:=0) rfl).key
     obtain⟨a',b',c',rfl,_⟩:=(h'.sl (i:=1) rfl).key
     exact⟨_,rfl,a,b,c,a',b',c',rfl,by rw[List.length_map,hol];exact h'⟩
   ·refine(GY hA hF hVA hVF).mono fun en W' h'=>?_
    obtain⟨o,rfl,h' | ⟨_,u,rv,rfl,h'⟩⟩:=h'
    ·exact absurd hO h'.1
    ·obtain⟨a,b,c,rfl,_⟩:=(h'.sl (i:=0) rfl).key
     obtain⟨a',b',c',rfl,_⟩:=(h'.sl (i:=1) rfl).key
     exact⟨_,rfl,a,b,c,a',b',c',rfl,by rw[List.length_map,hol];exact h'⟩
  ·refine⟨([],[]),[],[],280,eb,fun W v fv hE hA hF=>⟨er ?_,er ?_⟩⟩
   ·refine(Fy hE hA hF hVA hVF).mono fun en W' h'=>?_
    obtain⟨o,rfl,h' | ⟨h2,_⟩⟩:=h'
    ·exact⟨_,rfl,h'.2⟩
    ·exact absurd h2 hO
   ·refine(GY hA hF hVA hVF).mono fun en W' h'=>?_
    obtain⟨o,rfl,h' | ⟨h2,_⟩⟩:=h'
    ·exact⟨_,rfl,h'.2⟩
    ·exact absurd h2 hO
 ·exact⟨([],[]),[],[],280,eb,fun W v fv hE hA hF=>⟨er (O6 hE hA hF h),er (Mf hA hF h)⟩⟩
theorem JR(l:List Ft)(op ve lim:Int):∃ a b c e,kU l op ve lim=.tuple #[.int .i64 a,.int .i64 b,.int .i64 c,.int .i64 e]:=by
 unfold kU
 split
 ·exact⟨_,_,_,_,rfl⟩
 ·exact⟨_,_,_,_,rfl⟩
end Go.Proofs.YtnkmbjedcjcccaaGreatDoor
namespace Go.Proofs.YtnkmbjedcjcccaaGreatDoor
open Tryz
open Go Go.Eng
set_option maxRecDepth 100000
def eM(P:Program)(t0:Value)(t259:Value)(t268:Value)(t265:Value)(k6:Value->World->Prop)(w:World)(R:Ending->World->Prop):Prop:=
 Cl P 27 #[t0,(.int .i64 2)] w (Pk R) fun t272 w=>
 Bn P .quo 3 true t0 (.int .i64 2) w fun t274 w=>
 Cl P 27 #[t274,(.int .i64 2)] w (Pk R) fun t275 w=>
 Cl P 28 #[t259,t272,t275,t268] w (Pk R) fun t277 w=>
 Ex t277 0 w fun t278 w=>
 Ex t277 1 w fun t279 w=>
 Ex t277 2 w fun t280 w=>
 Ex t277 3 w fun t281 w=>
 Cl P 27 #[t0,(.int .i64 2)] w (Pk R) fun t285 w=>
 Bn P .quo 3 true t0 (.int .i64 2) w fun t287 w=>
 Cl P 27 #[t287,(.int .i64 2)] w (Pk R) fun t288 w=>
 Cl P 29 #[t259,t285,t288,t268] w (Pk R) fun t290 w=>
 Ex t290 0 w fun t291 w=>
 Ex t290 1 w fun t292 w=>
 Ex t290 2 w fun t293 w=>
 Ex t290 3 w fun t294 w=>
 Bn P .neq 3 false t278 t291 w fun t297 w=>
 Gd t297 false (fun k=>k t279 w) w fun t299 w=>
 Gd t297 false (fun k=>k t292 w) w fun t300 w=>
 Gd t297 false (fun k=>Bn P .neq 3 false t299 t300 w k) w fun t301 w=>
 cH t297 (.bool true) t301 w fun t302 w=>
 Gd t302 false (fun k=>k t280 w) w fun t304 w=>
 Gd t302 false (fun k=>k t293 w) w fun t305 w=>
 Gd t302 false (fun k=>Bn P .neq 3 false t304 t305 w k) w fun t306 w=>
 cH t302 (.bool true) t306 w fun t307 w=>
 Gd t307 false (fun k=>k t281 w) w fun t309 w=>
 Gd t307 false (fun k=>k t294 w) w fun t310 w=>
 Gd t307 false (fun k=>Bn P .neq 46 false t309 t310 w k) w fun t311 w=>
 cH t307 (.bool true) t311 w fun t312 w=>
 If t312
 (R (.returned (.bool false)) w)
 (Bn P .add 3 true t265 (.int .i64 1) w fun t313 w=>
 k6 t313 w)
def fb(P:Program)(t6:Value)(t0:Value)(t259:Value)(t256:Value)(k5:Value->World->Prop)(w:World)(R:Ending->World->Prop):Prop:=
 Cl P 27 #[t6,(.int .i64 60)] w (Pk R) fun t262 w=>
 Bs P 33 2 [(0,t6),(1,t262)] w fun t263 w=>
 Bt P .len #[33] 3 #[t263] w fun t264 w=>
 jt (.int .i64 0) w (fun t265 w k6=>
 Bn P .lss 3 false t265 t264 w fun t266 w=>
 If t266
 (Ia P 33 t263 t265 w fun t267 w=>
 Ld P 3 t267 w fun t268 w=>
 eM P t0 t259 t268 t265 k6 w R)
 (Bn P .add 3 true t256 (.int .i64 1) w fun t314 w=>
 k5 t314 w))
def fc(P:Program)(t252:Value)(t97:Value)(t6:Value)(t0:Value)(w:World)(R:Ending->World->Prop):Prop:=
 Ld P 31 t252 w fun t253 w=>
 Bs P 53 2 [(0,t97),(1,t253)] w fun t254 w=>
 Bt P .len #[53] 3 #[t254] w fun t255 w=>
 jt (.int .i64 0) w (fun t256 w k5=>
 Bn P .lss 3 false t256 t255 w fun t257 w=>
 If t257
 (Ia P 53 t254 t256 w fun t258 w=>
 Ld P 31 t258 w fun t259 w=>
 fb P t6 t0 t259 t256 k5 w R)
 (R (.returned (.bool true)) w))
def fe(P:Program)(t20:Value)(t219:Value)(t216:Value)(k4:Value->World->Prop)(w:World)(R:Ending->World->Prop):Prop:=
 Ld P 28 t20 w fun t221 w=>
 Cl P 24 #[t221,t219] w (Pk R) fun t223 w=>
 Ex t223 0 w fun t224 w=>
 Ex t223 1 w fun t225 w=>
 Ex t223 2 w fun t226 w=>
 Al P 28 w fun t37 w=>
 cL P 28 t37 t224 w fun w=>
 Ld P 28 t20 w fun t228 w=>
 Cl P 25 #[t228,t219] w (Pk R) fun t230 w=>
 Ex t230 0 w fun t231 w=>
 Ex t230 1 w fun t232 w=>
 Ex t230 2 w fun t233 w=>
 Al P 28 w fun t40 w=>
 cL P 28 t40 t231 w fun w=>
 Bn P .neq 46 false t226 t233 w fun t236 w=>
 Gd t236 false (fun k=>Ld P 28 t37 w k) w fun t238 w=>
 Gd t236 false (fun k=>Ld P 28 t40 w k) w fun t239 w=>
 Gd t236 false (fun k=>Cl P 16 #[t238,t239] w (Pk R) k) w fun t240 w=>
 Gd t236 false (fun k=>Un P .not t240 w k) w fun t241 w=>
 cH t236 (.bool true) t241 w fun t242 w=>
 Gd t242 false (fun k=>k t225 w) w fun t244 w=>
 Gd t242 false (fun k=>k t232 w) w fun t245 w=>
 Gd t242 false (fun k=>Cl P 26 #[t244,t245] w (Pk R) k) w fun t246 w=>
 Gd t242 false (fun k=>Un P .not t246 w k) w fun t247 w=>
 cH t242 (.bool true) t247 w fun t248 w=>
 If t248
 (R (.returned (.bool false)) w)
 (Bn P .add 3 true t216 (.int .i64 1) w fun t249 w=>
 k4 t249 w)
def ff(P:Program)(t207:Value)(t15:Value)(t97:Value)(t20:Value)(t104:Value)(k2:Value->World->Prop)(w:World)(R:Ending->World->Prop):Prop:=
 Dv P false (Instr.loadAt 31 t207) w.drew fun t208=>
 Dv P true (Instr.fieldAt 35 t15 1) w.drew fun t209=>
 Dv P false (Instr.loadAt 31 t209) w.drew fun t210=>
 Dv P true (Instr.fieldAt 35 t15 2) w.drew fun t211=>
 Dv P false (Instr.loadAt 3 t211) w.drew fun t212=>
 Dv P true (Instr.sliceAt 31 t210 (some t212) none none) w.drew fun t213=>
 Bs P 53 3 [(0,t97),(1,t208),(2,t213)] w.drew fun t214 w=>
 Dv P true (bV .len #[53] 3 #[t214]) w fun t215=>
 jt (.int .i64 0) w (fun t216 w k4=>
 Bn P .lss 3 false t216 t215 w fun t217 w=>
 If t217
 (Ia P 53 t214 t216 w fun t218 w=>
 Ld P 31 t218 w fun t219 w=>
 fe P t20 t219 t216 k4 w R)
 (Bn P .add 3 true t104 (.int .i64 1) w fun t250 w=>
 k2 t250 w))
def fh(P:Program)(t183:Value)(t20:Value)(t180:Value)(k3:Value->World->Prop)(w:World)(R:Ending->World->Prop):Prop:=
 Al P 30 w fun t30 w=>
 cL P 30 t30 t183 w fun w=>
 Ld P 28 t20 w fun t185 w=>
 Ld P 30 t30 w fun t186 w=>
 Cl P 22 #[t185,t186] w (Pk R) fun t187 w=>
 Ex t187 0 w fun t188 w=>
 Ex t187 1 w fun t189 w=>
 Al P 28 w fun t31 w=>
 cL P 28 t31 t188 w fun w=>
 Ld P 28 t20 w fun t191 w=>
 Ld P 30 t30 w fun t192 w=>
 Cl P 23 #[t191,t192] w (Pk R) fun t193 w=>
 Ex t193 0 w fun t194 w=>
 Ex t193 1 w fun t195 w=>
 Al P 28 w fun t33 w=>
 cL P 28 t33 t194 w fun w=>
 Bn P .neq 46 false t189 t195 w fun t198 w=>
 Gd t198 false (fun k=>Ld P 28 t31 w k) w fun t200 w=>
 Gd t198 false (fun k=>Ld P 28 t33 w k) w fun t201 w=>
 Gd t198 false (fun k=>Cl P 16 #[t200,t201] w (Pk R) k) w fun t202 w=>
 Gd t198 false (fun k=>Un P .not t202 w k) w fun t203 w=>
 cH t198 (.bool true) t203 w fun t204 w=>
 If t204
 (R (.returned (.bool false)) w)
 (Bn P .add 3 true t180 (.int .i64 1) w fun t205 w=>
 k3 t205 w)
def fj(P:Program)(t6:Value)(t0:Value)(t18:Value)(t165:Value)(t20:Value)(t15:Value)(t97:Value)(t104:Value)(k2:Value->World->Prop)(w:World)(R:Ending->World->Prop):Prop:=
 Dv P true (bn .quo 3 true t6 (.int .i64 40)) w.drew fun t169=>
 Dv P true (bn .quo 3 true t0 (.int .i64 7)) w.drew fun t171=>
 Dv P true (bn .quo 3 true t6 (.int .i64 7)) w.drew fun t173=>
 Dv P true (bn .quo 3 true t0 (.int .i64 11)) w.drew fun t175=>
 Dv P true (Instr.build 39 #[(0,t0),(1,t6),(2,t169),(3,t171),(4,t173),(5,t175)]) w.drew fun t176=>
 Cl P 21 #[t176] w.drew (Pk R) fun t177 w=>
 Ke P (Instr.loadAt 30 t18) t165 w <|
 Bs P 26 2 [(0,t165),(1,t177)] w fun t178 w=>
 Dv P true (bV .len #[26] 3 #[t178]) w fun t179=>
 jt (.int .i64 0) w (fun t180 w k3=>
 Bn P .lss 3 false t180 t179 w fun t181 w=>
 If t181
 (Ia P 26 t178 t180 w fun t182 w=>
 Ld P 30 t182 w fun t183 w=>
 fh P t183 t20 t180 k3 w R)
 (Dv P true (Instr.fieldAt 35 t15 1) w.drew fun t207=>
 ff P t207 t15 t97 t20 t104 k2 w R))
def fk(P:Program)(t125:Value)(t20:Value)(t18:Value)(t6:Value)(t0:Value)(t15:Value)(t97:Value)(t104:Value)(k2:Value->World->Prop)(w:World)(R:Ending->World->Prop):Prop:=
 Ld P 25 t125 w fun t126 w=>
 Cl P 17 #[t126] w (Pk R) fun t127 w=>
 Ex t127 0 w fun t128 w=>
 Ex t127 1 w fun t129 w=>
 Al P 28 w fun t21 w=>
 cL P 28 t21 t128 w fun w=>
 Fa P 28 t20 0 w fun t131 w=>
 Ld P 25 t131 w fun t132 w=>
 Cl P 18 #[t132] w (Pk R) fun t133 w=>
 Ex t133 0 w fun t134 w=>
 Ex t133 1 w fun t135 w=>
 Al P 28 w fun t23 w=>
 cL P 28 t23 t134 w fun w=>
 Ld P 28 t20 w fun t137 w=>
 Cl P 19 #[t137] w (Pk R) fun t138 w=>
 Ex t138 0 w fun t139 w=>
 Ex t138 1 w fun t140 w=>
 Al P 25 w fun t25 w=>
 cL P 25 t25 t139 w fun w=>
 Ld P 28 t20 w fun t142 w=>
 Cl P 20 #[t142] w (Pk R) fun t143 w=>
 Ex t143 0 w fun t144 w=>
 Ex t143 1 w fun t145 w=>
 Al P 25 w fun t27 w=>
 cL P 25 t27 t144 w fun w=>
 Bn P .neq 46 false t129 t135 w fun t148 w=>
 Gd t148 false (fun k=>Ld P 28 t21 w k) w fun t150 w=>
 Gd t148 false (fun k=>Ld P 28 t23 w k) w fun t151 w=>
 Gd t148 false (fun k=>Cl P 16 #[t150,t151] w (Pk R) k) w fun t152 w=>
 Gd t148 false (fun k=>Un P .not t152 w k) w fun t153 w=>
 cH t148 (.bool true) t153 w fun t154 w=>
 Gd t154 false (fun k=>k t140 w) w fun t156 w=>
 Gd t154 false (fun k=>k t145 w) w fun t157 w=>
 Gd t154 false (fun k=>Bn P .neq 46 false t156 t157 w k) w fun t158 w=>
 cH t154 (.bool true) t158 w fun t159 w=>
 Gd t159 false (fun k=>Ld P 25 t25 w k) w fun t161 w=>
 Gd t159 false (fun k=>Ld P 25 t27 w k) w fun t162 w=>
 Gd t159 false (fun k=>Bn P .neq 25 false t161 t162 w k) w fun t163 w=>
 cH t159 (.bool true) t163 w fun t164 w=>
 If t164
 (R (.returned (.bool false)) w)
 (Dv P false (Instr.loadAt 30 t18) w.drew fun t165=>
 fj P t6 t0 t18 t165 t20 t15 t97 t104 k2 w R)
def fm(P:Program)(t107:Value)(t15:Value)(t18:Value)(t6:Value)(t0:Value)(t97:Value)(t104:Value)(k2:Value->World->Prop)(w:World)(R:Ending->World->Prop):Prop:=
 Al P 28 w fun t20 w=>
 cL P 28 t20 t107 w fun w=>
 Dv P false (Instr.loadAt 28 t20) w.drew fun t108=>
 Dv P false (Instr.loadAt 28 t20) w.drew fun t110=>
 Cl P 13 #[t108] w.drew (Pk R) fun t109 w=>
 Ke P (Instr.loadAt 28 t20) t110 w <|
 Cl P 14 #[t110] w (Pk R) fun t111 w=>
 Dv P true (bn .neq 4 false t109 t111) w fun t112=>
 dx t112 false (fun k=>Dv P false (Instr.loadAt 28 t20) w k) fun t114=>
 dx t112 false (fun k=>Dv P true (Instr.fieldAt 35 t15 0) w k) fun t115=>
 dx t112 false (fun k=>Dv P false (Instr.loadAt 28 t115) w k) fun t116=>
 dx t112 false (fun k=>Dv P false (Instr.loadAt 28 t20) w k) fun t118=>
 dx t112 false (fun k=>Dv P true (Instr.fieldAt 35 t15 0) w k) fun t119=>
 dx t112 false (fun k=>Dv P false (Instr.loadAt 28 t119) w k) fun t120=>
 Gd t112 false (fun k=>Cl P 15 #[t114,t116] w (Pk R) k) w fun t117 w=>
 Kg t112 false P (Instr.loadAt 28 t20) t118 w <|
 Kg t112 false P (Instr.loadAt 28 t119) t120 w <|
 Gd t112 false (fun k=>Cl P 16 #[t118,t120] w (Pk R) k) w fun t121 w=>
 dx t112 false (fun k=>Dv P true (bn .neq 4 false t117 t121) w k) fun t122=>
 eH t112 (.bool true) t122 fun t123=>
 If t123
 (R (.returned (.bool false)) w)
 (Fa P 28 t20 0 w fun t125 w=>
 fk P t125 t20 t18 t6 t0 t15 t97 t104 k2 w R)
def fo(P:Program)(t86:Value)(t5:Value)(t15:Value)(t10:Value)(t6:Value)(t0:Value)(w:World)(R:Ending->World->Prop):Prop:=
 Bs P 26 1 [(0,t86)] w fun t87 w=>
 Bd P 28 [(1,t87)] w fun t88 w=>
 Cl P 12 #[t88] w (Pk R) fun t89 w=>
 Eng.Fd P 28 t89 1 w fun t90 w=>
 Ia P 26 t90 (.int .i64 0) w fun t91 w=>
 Ld P 30 t91 w fun t92 w=>
 Al P 30 w fun t18 w=>
 cL P 30 t18 t92 w fun w=>
 Bt P .len #[31] 3 #[t5] w fun t95 w=>
 Bt P .min #[3,3] 3 #[t95,(.int .i64 10)] w fun t96 w=>
 Sc P 31 t5 none (some t96) none w fun t97 w=>
 Dv P true (Instr.fieldAt 35 t15 0) w.drew fun t98=>
 Dv P false (Instr.loadAt 28 t98) w.drew fun t99=>
 Dv P false (Instr.loadAt 28 t10) w.drew fun t100=>
 Cl P 12 #[t100] w.drew (Pk R) fun t101 w=>
 Ke P (Instr.loadAt 28 t98) t99 w <|
 Bs P 43 2 [(0,t99),(1,t101)] w fun t102 w=>
 Dv P true (bV .len #[43] 3 #[t102]) w fun t103=>
 jt (.int .i64 0) w (fun t104 w k2=>
 Bn P .lss 3 false t104 t103 w fun t105 w=>
 If t105
 (Ia P 43 t102 t104 w fun t106 w=>
 Ld P 28 t106 w fun t107 w=>
 fm P t107 t15 t18 t6 t0 t97 t104 k2 w R)
 (Fa P 35 t15 1 w fun t252 w=>
 fc P t252 t97 t6 t0 w R))
def ic(P:Program)(t0:Value)(t1:Value)(t2:Value)(t3:Value)(t4:Value)(t5:Value)(t6:Value)(w:World)(R:Ending->World->Prop):Prop:=
 Bx P 28 t3 w fun t10 w=>
 Bx P 30 t4 w fun t11 w=>
 Cl P 9 #[] w (Pk R) fun t55 w=>
 Un P .not t55 w fun t56 w=>
 If t56
 (R (.returned (.bool false)) w)
 (Cl P 10 #[t0,t1] w (Pk R) fun t60 w=>
 Ex t60 0 w fun t61 w=>
 Ex t60 1 w fun t62 w=>
 Al P 35 w fun t15 w=>
 cL P 35 t15 t61 w fun w=>
 Un P .not t62 w fun t64 w=>
 If t64
 (R (.returned (.bool false)) w)
 (jt (.int .i64 0) w (fun t17 w k1=>
 Bt P .len #[23] 3 #[t2] w fun t67 w=>
 Bn P .lss 3 false t17 t67 w fun t68 w=>
 Gd t68 true (fun k=>k t17 w) w fun t70 w=>
 Gd t68 true (fun k=>Bn P .lss 3 true t70 (.int .i64 12) w k) w fun t71 w=>
 cH t68 t71 (.bool false) w fun t72 w=>
 If t72
 (Dv P false (Instr.loadAt 35 t15) w.drew fun t76=>
 Dv P true (Instr.indexAt 23 t2 t17) w.drew fun t79=>
 Dv P false (Instr.loadAt 41 t79) w.drew fun t80=>
 Cl P 11 #[t76,t80] w.drew (Pk R) fun t81 w=>
 gR t81 0 fun t82=>
 gR t81 1 fun t83=>
 cL P 35 t15 t82 w fun w=>
 Un P .not t83 w fun t85 w=>
 If t85
 (R (.returned (.bool false)) w)
 (Bn P .add 3 true t17 (.int .i64 1) w fun t74 w=>
 k1 t74 w))
 (Ld P 30 t11 w fun t86 w=>
 fo P t86 t5 t15 t10 t6 t0 w R))))
theorem lV{t0 t1 t2 t3 t4 t5 t6:Value}{w:World}{R:Ending->World->Prop}(h:ic prog t0 t1 t2 t3 t4 t5 t6 w R):Calls prog 3 #[t0,t1,t2,t3,t4,t5,t6] w R:=
 dW (.sq .z (.sq (.sq .z (.cd (.sq .z .z) .z)) (.sq .z (.sq (.sq .z (.cd (.sq .z .z) .z)) (.sq (.sq .z (.bk (.lp [17] [14,16,65,66,67,68,69,70,71,72,73,74,75,76,77,78,79,80,81,82,83,84,85] (.sq (.sq .z (.cd .z .z)) (.sq (.bk (.sq (.dr (.pur false 0 (.pur true 1 (.pur true 2 (.pur true 3 (.pur false 4 (.eff 5 [] (.pur true 6 (.pur true 7 (.pur true 8 (.eff 9 [] (.pur true 10 .done)))))))))))) (.sq .z (.cd (.sq .z .z) .z)))) .z))))) (.sq .z (.sq .z (.sq (.sq (.dr (.pur true 0 (.pur false 1 (.pur false 2 (.pur true 6 (.eff 3 [1] (.eff 4 [] (.pur true 5 .done)))))))) (.bk (.lp [104] [14,20,21,22,23,24,25,26,27,28,30,31,32,33,34,36,37,38,39,40,41,42,105,106,107,108,109,110,111,112,113,114,115,116,117,118,119,120,121,122,123,124,125,126,127,128,129,130,131,132,133,134,135,136,137,138,139,140,141,142,143,144,145,146,147,148,149,150,151,152,153,154,155,156,157,158,159,160,161,162,163,164,165,166,167,168,169,170,171,172,173,174,175,176,177,178,179,180,181,182,183,184,185,186,187,188,189,190,191,192,193,194,195,196,197,198,199,200,201,202,203,204,205,206,207,208,209,210,211,212,213,214,215,216,217,218,219,220,221,222,223,224,225,226,227,228,229,230,231,232,233,234,235,236,237,238,239,240,241,242,243,244,245,246,247,248,249,250] (.sq .z (.sq (.cd .z .z) (.sq (.bk (.sq .z (.sq (.sq (.dr (.pur false 0 (.pur false 2 (.eff 1 [2] (.eff 3 [] (.pur true 4 (.pur true 5 (.pur false 6 (.pur true 7 (.pur false 8 (.pur false 10 (.pur true 11 (.pur false 12 (.eff 9 [10,12] (.eff 13 [] (.pur true 14 (.pur true 15 .done))))))))))))))))) (.cd (.sq .z .z) .z)) (.sq .z (.sq .z (.sq .z (.sq .z (.sq (.sq .z (.cd (.sq .z .z) .z)) (.sq (.sq (.dr (.pur false 0 (.pur true 1 (.pur true 2 (.pur true 3 (.pur true 4 (.pur true 5 (.pur true 6 (.pur true 7 (.pur true 8 (.pur true 9 (.pur true 10 (.pur true 11 (.pur true 15 (.eff 12 [0] (.eff 13 [] (.pur true 14 .done))))))))))))))))) (.bk (.lp [180] [14,30,31,32,33,34,181,182,183,184,185,186,187,188,189,190,191,192,193,194,195,196,197,198,199,200,201,202,203,204,205] (.sq .z (.sq (.cd .z .z) (.sq (.bk (.sq .z (.sq .z (.sq .z (.sq .z (.cd (.sq .z .z) .z)))))) .z)))))) (.sq (.dr (.pur true 0 (.pur true 1 (.pur false 2 (.pur true 3 (.pur false 4 (.pur true 5 (.pur false 6 (.pur true 7 (.pur true 10 (.eff 8 [] (.pur true 9 .done)))))))))))) (.bk (.lp [216] [14,36,37,38,39,40,41,42,217,218,219,220,221,222,223,224,225,226,227,228,229,230,231,232,233,234,235,236,237,238,239,240,241,242,243,244,245,246,247,248,249] (.sq .z (.sq (.cd .z .z) (.sq (.bk (.sq .z (.sq .z (.sq .z (.sq .z (.cd (.sq .z .z) .z)))))) .z))))))))))))))) .z)))))) (.sq (.sq .z (.bk (.lp [256] [14,44,46,47,48,49,50,51,52,53,54,257,258,259,260,261,262,263,264,265,266,267,268,269,270,271,272,273,274,275,276,277,278,279,280,281,282,283,284,285,286,287,288,289,290,291,292,293,294,295,296,297,298,299,300,301,302,303,304,305,306,307,308,309,310,311,312,313,314] (.sq .z (.sq (.cd .z .z) (.sq (.bk (.sq .z (.sq .z (.bk (.lp [265] [14,46,47,48,49,50,51,52,53,54,266,267,268,269,270,271,272,273,274,275,276,277,278,279,280,281,282,283,284,285,286,287,288,289,290,291,292,293,294,295,296,297,298,299,300,301,302,303,304,305,306,307,308,309,310,311,312,313] (.sq .z (.sq (.cd .z .z) (.sq (.bk (.sq .z (.sq .z (.sq .z (.sq .z (.cd (.sq .z .z) .z)))))) .z)))))))) .z)))))) (.sq .z .z)))))))))) [t0,t1,t2,t3,t4,t5,t6] func3 (by kernel_rfl) (by kernel_rfl) h
end Go.Proofs.YtnkmbjedcjcccaaGreatDoor
namespace Go.Proofs.YtnkmbjedcjcccaaGreatDoor
open Tryz
open Go Go.Eng Go.Proofs Go.Num Go.RowKit
open Go.Alm (Ft Wt Sm VW VA dn gO obs obs1 dD obsN fresh fL)
set_option maxRecDepth 100000
theorem QT{wi:Bool}{a:Bool}{c:Bool}{w:World}{KP:Value->Prop}(hk:KP (.bool false)):Dv prog wi (bn .neq 4 c (.bool a) (.bool a)) w KP:=by
 cases wi <;> cases a <;> exact⟨_,by first | rfl | (intro W;rfl),hk⟩
abbrev fV(x:Value):List Value:=[x]
section
variable{w0:World}{R:Ending->World->Prop}{b lm:Int}(hE:En w0)(hb:eS b)(hlm:eS lm)
include hE hb hlm
set_option maxHeartbeats 16000000 in
theorem QU{k6:Value->World->Prop}{fv:Value}{l:List Ft}{n:Int}{j:Nat}(hF:Fk w0 fv l)(hn:eS n)(hj:j<=5)(hk:∀ W,bK w0 W->k6 (.int .i64 ((j:Int)+1)) W):
 eM prog (.int .i64 b) fv (.int .i64 n) (.int .i64 (j:Int)) k6 w0 R:=by
 have p1:=dQ (c:=b) (n:=2) (by decide)
 have p2:=dQ (c:=b.tdiv 2) (n:=2) (by decide)
 have cc1:=fun {W:World} (_:bK w0 W)=>nX (w:=W) (c:=b) (n:=2) hb (by decide)
 have cc2:=fun {W:World} (_:bK w0 W)=>nX (w:=W) (c:=b.tdiv 2) (n:=2) (kC hb) (by decide)
 have cc3:=fun {W:World} (e:bK w0 W)=>IA (w0:=W) (op:=cQ b 2) (ve:=cQ (b.tdiv 2) 2) (lim:=n) (hF.ext e) (by omega) (by omega) hn
 have cc4:=fun {W:World} (e:bK w0 W)=>Lf (w0:=W) (op:=cQ b 2) (ve:=cQ (b.tdiv 2) 2) (lim:=n) (hF.ext e) (by omega) (by omega) hn
 obtain⟨r1,r2,r3,r4,hr⟩:=JR l (cQ b 2) (cQ (b.tdiv 2) 2) n
 rw[hr]at cc3 cc4
 clear hr
 unfold eM
 have h:=Hp.init [] w0
 refine ce h ec (cc1 h.ext) fun w h=>?_
 refine Jz (by omega) (by omega) (by omega) (ce h ec (cc2 h.ext) fun w h=>?_)
 refine ce h vT (cc3 h.ext) fun w h=>?_
 refine SQ ?_
 refine ce h ec (cc1 h.ext) fun w h=>?_
 refine Jz (by omega) (by omega) (by omega) (ce h ec (cc2 h.ext) fun w h=>?_)
 refine ce h C4 (cc4 h.ext) fun w h=>?_
 refine SQ ?_
 refine cE (by omega) (ah (ah (ah (cE (by omega) (aw (ah (ah (ah (cE (by omega) (aw (ah (ah (ah (cE (by omega) (aw (cf (cF (by omega) (by omega) ?_)))))))))))))))))
 exact hk _ h.ext
set_option maxHeartbeats 16000000 in
theorem S6{k5:Value->World->Prop}{fv:Value}{l:List Ft}{j:Nat}(hF:Fk w0 fv l)(hj:j<=5)(hk:∀ W,bK w0 W->k5 (.int .i64 ((j:Int)+1)) W):
 fb prog (.int .i64 lm) (.int .i64 b) fv (.int .i64 (j:Int)) k5 w0 R:=by
 have p1:=dQ (c:=lm) (n:=60) (by decide)
 have cc1:=fun {W:World} (_:bK w0 W)=>nX (w:=W) (c:=lm) (n:=60) hlm (by decide)
 unfold fb
 have h:=Hp.init [] w0
 refine ce h ec (cc1 h.ext) fun w h=>?_
 refine AH (vs:=[_,_]) h (.cons (by rfl) (by rfl) (.cons (by rfl) (by rfl) .nil)) (by rfl) (by rfl) (by decide) (by decide) (by decide) fun v1 w h=>?_
 refine gS (qZ 0 h rfl) ?_
 clear cc1
 obtain⟨nl,hnl⟩:∃ nl:List Int,nl=[lm,cQ lm 60]:=⟨_,rfl⟩
 have hn2:nl.length=2:=by rw[hnl];rfl
 have hnI:∀ x∈nl,eS x:=by
  rw[hnl]
  intro x hx
  rcases List.mem_cons.1 hx with e | hx
  ·rw[e];exact hlm
  ·rw[List.mem_singleton.1 hx];omega
 have hs:dJ w 1 v1 nl.length (nl.flatMap fZ):=by rw[hnl];exact h.sl (i:=0) rfl
 clear hnl
 have e1:=h.ext
 have hE:=hE.ext e1
 have hF:=hF.ext e1
 have hk:=fun W e=>hk W (e1.tr e)
 clear h
 obtain⟨w1,rfl⟩:∃ x,x=w:=⟨_,rfl⟩
 have h:=Hp.init [] w1
 refine jt.mk (fun i W=>∃ q:Nat,q<=2/\i=.int .i64 q/\Hp [] w1 W []) (fun i _=>match i with | .int _ x=>2 - x.toNat | _=>0) ⟨0,by omega,rfl,h⟩ ?_
 clear h
 rintro _ W ⟨q,hq,rfl,h⟩
 by_cases hq2:q < 2
 ·refine Exists.elim (p:=fun x=>nl[q]?=some x) ⟨_,List.getElem?_eq_getElem (by omega)⟩ fun x hx=>?_
  have sx:iY (nl.flatMap fZ) (q * 1) (fZ x):=cZ (f:=fZ) (fun _=>rfl) hx
  refine cy (by omega) (co (lU h ‹_› (by omega) fun zb zo zk zv zc=>?_))
  refine Ni h ‹_› ‹_› (by rfl) ?_
  exact QU (hE.ext h.ext) hb hlm (hF.ext h.ext) (hnI x (List.mem_of_getElem? hx)) (by omega) fun W e=>⟨⟨q+1,by omega,rfl,h.x e⟩,by show 2 - ((q:Int)+1).toNat < 2 - (q:Int).toNat;omega⟩
 ·refine cD (by omega) (cf (cF (by omega) (by omega) ?_))
  exact hk _ h.ext
set_option maxHeartbeats 16000000 in
theorem S7{g15 at0:Nat}{B:Rat}{v lv rv t97:Value}{fl la:List Ft}(b15:cM w0 g15 Im [bh (tx B).1,bh (tx B).2,v,lv,.int .i64 (at0:Int),rv])(hF:Fk w0 lv fl)(hFl:Fk w0 t97 la)(hR:∀ W,bK w0 W->R (.returned (.bool true)) W){lx:Option Addr}{ly lz:Nat}(hlv:lv=.slice lx ly lz){ax:Option Addr}{ay az:Nat}(hav:t97=.slice ax ay az):
 fc prog (pr g15 3) t97 (.int .i64 lm) (.int .i64 b) w0 R:=by
 subst hlv
 subst hav
 unfold fc
 have h:=Hp.init [] w0
 refine P5 h ‹_› (by rfl) ?_
 refine AH (vs:=[_,_]) h (.cons (by rfl) (by rfl) (.cons (by rfl) (by rfl) .nil)) (by rfl) (by rfl) (by decide) (by decide) (by decide) fun v1 w h=>?_
 refine gS (qZ 0 h rfl) ?_
 obtain⟨ul,hul⟩:∃ ul:List Value,ul=[.slice ax ay az,.slice lx ly lz]:=⟨_,rfl⟩
 have hn2:ul.length=2:=by rw[hul];rfl
 have hu:∀ x∈ul,∃ l,Fk w0 x l:=by
  rw[hul]
  intro x hx
  rcases List.mem_cons.1 hx with e | hx
  ·rw[e];exact⟨_,hFl⟩
  ·rw[List.mem_singleton.1 hx];exact⟨_,hF⟩
 have hs:dJ w 1 v1 ul.length (ul.flatMap fV):=by rw[hul];exact h.sl (i:=0) rfl
 clear hul
 have e1:=h.ext
 have hE:=hE.ext e1
 have hR:=fun W e=>hR W (e1.tr e)
 clear h
 obtain⟨w1,rfl⟩:∃ x,x=w:=⟨_,rfl⟩
 have h:=Hp.init [] w1
 refine jt.mk (fun i W=>∃ q:Nat,q<=2/\i=.int .i64 q/\Hp [] w1 W []) (fun i _=>match i with | .int _ x=>2 - x.toNat | _=>0) ⟨0,by omega,rfl,h⟩ ?_
 clear h
 rintro _ W ⟨q,hq,rfl,h⟩
 by_cases hq2:q < 2
 ·refine Exists.elim (p:=fun x=>ul[q]?=some x) ⟨_,List.getElem?_eq_getElem (by omega)⟩ fun x hx=>?_
  refine Exists.elim (hu x (List.mem_of_getElem? hx)) fun l hFx=>?_
  have sx:iY (ul.flatMap fV) (q * 1) (fV x):=cZ (f:=fV) (fun _=>rfl) hx
  refine cy (by omega) (co (lU h ‹_› (by omega) fun zb zo zk zv zc=>?_))
  refine Ni h ‹_› ‹_› (by rfl) ?_
  exact S6 (hE.ext h.ext) hb hlm (hFx.ext (e1.tr h.ext)) (by omega) fun W e=>⟨⟨q+1,by omega,rfl,h.x e⟩,by show 2 - ((q:Int)+1).toNat < 2 - (q:Int).toNat;omega⟩
 ·refine cD (by omega) (cf ?_)
  exact hR _ h.ext
end
section
variable{w0:World}{R:Ending->World->Prop}{p:RS}{x20:Option Addr}{y20 z20:Nat}{l:List WR}{g20:Nat}(hE:En w0)(hA:Ak w0 p (.slice x20 y20 z20) l)(hl:l.length<=1000)(b20:cM w0 g20 jA [bh p.1,bh p.2,.slice x20 y20 z20])
include hE hA hl b20
set_option maxHeartbeats 16000000 in
theorem S8{k4:Value->World->Prop}{fv:Value}{fl:List Ft}{j:Nat}(hF:Fk w0 fv fl)(hj:j<=5)(hk:∀ W,bK w0 W->k4 (.int .i64 ((j:Int)+1)) W):
 fe prog (pr g20 0) fv (.int .i64 (j:Int)) k4 w0 R:=by
 obtain⟨P,L,rg,E,⟨hP,hL,hLn,hrn,hri⟩,hob⟩:=JQ (fl:=fl) hA.hp hl
 have ca:=fun {W:World} (e:bK w0 W)=>(hob W _ fv (hE.ext e) (hA.ext e) (hF.ext e)).1
 have cb:=fun {W:World} (e:bK w0 W)=>(hob W _ fv (hE.ext e) (hA.ext e) (hF.ext e)).2
 clear hob
 unfold fe
 have h:=Hp.init [] w0
 refine uJ h ‹_› (by rfl) ?_
 refine cu cS (ca h.ext) ?_
 rintro _ W1 ⟨x,y,z,x',y',z',rfl,h1⟩
 have h:=h.cat2 h1 dM dM
 clear h1 ca
 refine Sw (du h fun g1 w h=>?_)
 refine de h 0 rfl rfl rfl rfl fun w h=>?_
 refine uJ h ‹_› (by rfl) ?_
 dsimp only[List.set]at h
 refine cu yx (cb h.ext) ?_
 rintro _ W2 ⟨u,v,q,u',v',q',rfl,h1⟩
 have h:=h.cat2 h1 dM dM
 clear h1 cb
 have ccs:∀ {W:World},bK w0 W->dJ W 15 (.slice x y z) L.length (L.flatMap fW)->dJ W 15 (.slice u v q) L.length (L.flatMap fW)->Calls prog 16 #[vA P (.slice x y z),vA P (.slice u v q)] W (bQ fun r w'=>bK W w'/\r=.bool true):=fun {W} e sa sb=>by
  have:=vj (w0:=W) (⟨hP,sa,hL,hLn⟩:Ak W P (.slice x y z) L) (⟨hP,sb,hL,hLn⟩:Ak W P (.slice u v q) L)
  rw[BP]at this
  exact this
 have cci:∀ {W:World},bK w0 W->dJ W 1 (.slice x' y' z') rg.length (rg.flatMap fN)->dJ W 1 (.slice u' v' q') rg.length (rg.flatMap fN)->Calls prog 26 #[.slice x' y' z',.slice u' v' q'] W (bQ fun r w'=>bK W w'/\r=.bool true):=fun {W} e sa sb=>by
  have:=IB (w0:=W) sa sb hrn hrn hri hri
  rw[decide_eq_true rfl]at this
  exact this
 refine Sw (du h fun g2 w h=>?_)
 refine de h 0 rfl rfl rfl rfl fun w h=>?_
 refine cE (by omega) (ah (dy h 3 rfl rfl ?_))
 refine ah (dy h 0 rfl rfl ?_)
 refine ah (ce h mT (ccs h.ext (by first | exact(qZ 4 h rfl) | assumption) (by first | exact(qZ 1 h rfl) | assumption)) fun w h=>?_)
 refine ah (ct (aw (ah (ah (ah (ce h vQ (cci h.ext (by first | exact(qZ 5 h rfl) | assumption) (by first | exact(qZ 2 h rfl) | assumption)) fun w h=>?_))))))
 refine ah (ct (aw (cf (cF (by omega) (by omega) ?_))))
 dsimp only[List.set]at h
 exact hk _ h.ext
set_option maxHeartbeats 16000000 in
theorem S9{k3:Value->World->Prop}{r:WR}{j:Nat}(hr:WRk r)(hj:j<=5)(hk:∀ W,bK w0 W->k3 (.int .i64 ((j:Int)+1)) W):
 fh prog (.agg #[.int .i64 r.op,.int .i64 r.ve,.int .i64 r.lim,bh r.m.1,bh r.m.2,bh r.a.1,bh r.a.2,bh r.b.1,bh r.b.2,.int .i64 r.st,.int .i64 r.th,.int .i64 r.sn,bh r.we.1,bh r.we.2,.bool r.ru]) (pr g20 0) (.int .i64 (j:Int)) k3 w0 R:=by
 obtain⟨P,L,E,⟨hP,hL,hLn⟩,hob⟩:=JP hA.hp hA.hk hl hr
 have ca:=fun {W:World} (e:bK w0 W)=>(hob W _ (hE.ext e) (hA.ext e)).1
 have cb:=fun {W:World} (e:bK w0 W)=>(hob W _ (hE.ext e) (hA.ext e)).2
 clear hob
 unfold fh
 have h:=Hp.init [] w0
 refine du h fun g1 w h=>?_
 refine de h 0 rfl rfl rfl rfl fun w h=>?_
 refine uJ h ‹_› (by rfl) ?_
 refine dy h 0 rfl rfl ?_
 dsimp only[List.set]at h
 refine cu dT (ca h.ext) ?_
 rintro _ W1 ⟨x,y,z,rfl,h1⟩
 have h:=h.cat1 h1 dM
 clear h1 ca
 refine gN (du h fun g2 w h=>?_)
 refine de h 0 rfl rfl rfl rfl fun w h=>?_
 refine uJ h ‹_› (by rfl) ?_
 refine dy h 2 rfl rfl ?_
 dsimp only[List.set]at h
 refine cu wW (cb h.ext) ?_
 rintro _ W2 ⟨u,v,q,rfl,h1⟩
 have h:=h.cat1 h1 dM
 clear h1 cb
 have ccs:∀ {W:World},bK w0 W->dJ W 15 (.slice x y z) L.length (L.flatMap fW)->dJ W 15 (.slice u v q) L.length (L.flatMap fW)->Calls prog 16 #[vA P (.slice x y z),vA P (.slice u v q)] W (bQ fun r w'=>bK W w'/\r=.bool true):=fun {W} e sa sb=>by
  have:=vj (w0:=W) (⟨hP,sa,hL,hLn⟩:Ak W P (.slice x y z) L) (⟨hP,sb,hL,hLn⟩:Ak W P (.slice u v q) L)
  rw[BP]at this
  exact this
 refine gN (du h fun g3 w h=>?_)
 refine de h 0 rfl rfl rfl rfl fun w h=>?_
 refine cE (by omega) (ah (dy h 2 rfl rfl ?_))
 refine ah (dy h 0 rfl rfl ?_)
 refine ah (ce h mT (ccs h.ext (by first | exact(qZ 3 h rfl) | assumption) (by first | exact(qZ 1 h rfl) | assumption)) fun w h=>?_)
 refine ah (ct (aw (cf (cF (by omega) (by omega) ?_))))
 dsimp only[List.set]at h
 exact hk _ h.ext
end
structure MrC(w0:World)(b lm:Int)(B:Rat)(x15:Option Addr)(y15 z15:Nat)(xl:Option Addr)(yl zl:Nat)(rv:Value)(ws:List Wt)(fl la:List Ft)(at0 g15 g18:Nat)(own:WR)(xa:Option Addr)(ya za:Nat):Prop where
 hE:En w0
 hb:eS b
 hlm:eS lm
 b15:cM w0 g15 Im [bh (tx B).1,bh (tx B).2,.slice x15 y15 z15,.slice xl yl zl,.int .i64 (at0:Int),rv]
 b18:cM w0 g18 gM (fW own)
 hw:Ak w0 (tx B) (.slice x15 y15 z15) (ws.map wr)
 hF:Fk w0 (.slice xl yl zl) fl
 hFl:Fk w0 (.slice xa ya za) la
 own:WRk own
 at':at0<=fl.length
theorem MrC.ext{w0 W:World}{b lm:Int}{B:Rat}{x15:Option Addr}{y15 z15:Nat}{xl:Option Addr}{yl zl:Nat}{rv:Value}{ws:List Wt}{fl la:List Ft}{at0 g15 g18:Nat}{own:WR}{xa:Option Addr}{ya za:Nat}(h:MrC w0 b lm B x15 y15 z15 xl yl zl rv ws fl la at0 g15 g18 own xa ya za)(e:bK w0 W):MrC W b lm B x15 y15 z15 xl yl zl rv ws fl la at0 g15 g18 own xa ya za:=
 ⟨h.hE.ext e,h.hb,h.hlm,h.b15.ext e,h.b18.ext e,h.hw.ext e,h.hF.ext e,h.hFl.ext e,h.own,h.at'⟩
section
variable{w0:World}{R:Ending->World->Prop}{p:RS}{x20:Option Addr}{y20 z20:Nat}{l:List WR}{g20:Nat}{b lm:Int}{B:Rat}{x15:Option Addr}{y15 z15:Nat}{xl:Option Addr}{yl zl:Nat}{rv:Value}{ws:List Wt}{fl la:List Ft}{at0 g15 g18:Nat}{own:WR}{xa:Option Addr}{ya za:Nat}{k2:Value->World->Prop}{i:Nat}
variable(hM:MrC w0 b lm B x15 y15 z15 xl yl zl rv ws fl la at0 g15 g18 own xa ya za)(hA:Ak w0 p (.slice x20 y20 z20) l)(hl:l.length<=1000)(hi:i<=5)(hk:∀ W,bK w0 W->k2 (.int .i64 ((i:Int)+1)) W)
include hM hA hl hi hk
section
variable(b20:cM w0 g20 jA [bh p.1,bh p.2,.slice x20 y20 z20])
include b20
set_option maxHeartbeats 16000000 in
theorem Tb{W0:World}(hw0:W0.drew=w0):ff prog (pr g15 3) (pr g15 0) (.slice xa ya za) (pr g20 0) (.int .i64 (i:Int)) k2 W0 R:=by
 subst hw0
 have b15:=hM.b15
 have sF:=hM.hF.hv
 have hat:=hM.at'
 have hfi:=hM.hF.hi
 have hfl:=hM.hF.hl
 unfold ff
 have h:=Hp.init [] W0.drew
 refine LW h ‹_› (by rfl) ?_
 refine di (LW h ‹_› (by rfl) ?_)
 refine di (LW h ‹_› (by rfl) ?_)
 refine SZ (sF.hp h) (by omega) fun v1 p1=>?_
 have sp:=p1.2 _ sF
 clear p1
 obtain⟨xp,yp,zp,rfl,_⟩:=sp.key
 refine AH (vs:=[_,_,_]) h (.cons (by rfl) (by rfl) (.cons (by rfl) (by rfl) (.cons (by rfl) (by rfl) .nil))) (by rfl) (by rfl) (by decide) (by decide) (by decide) fun v1 w h=>?_
 refine QH (qZ 0 h rfl) ?_
 obtain⟨ul,hul⟩:∃ ul:List Value,ul=[.slice xa ya za,.slice xl yl zl,.slice xp yp zp]:=⟨_,rfl⟩
 have hn2:ul.length=3:=by rw[hul];rfl
 have hFp:Fk w (.slice xp yp zp) (fl.drop at0):=⟨by
  have:=sp.hp h
  rw[wx (c:=10) (f:=fF) (fun _=>rfl)]at this
  rw[List.length_drop]
  exact this,fun f hf=>hfi f (List.mem_of_mem_drop hf),by rw[List.length_drop];omega⟩
 have hu:∀ x∈ul,∃ l,Fk w x l:=by
  rw[hul]
  intro x hx
  rcases List.mem_cons.1 hx with e | hx
  ·rw[e];exact⟨_,hM.hFl.ext h.ext⟩
  ·rcases List.mem_cons.1 hx with e | hx
   ·rw[e];exact⟨_,hM.hF.ext h.ext⟩
   ·rw[List.mem_singleton.1 hx];exact⟨_,hFp⟩
 have hs:dJ w 1 v1 ul.length (ul.flatMap fV):=by rw[hul];exact h.sl (i:=0) rfl
 clear hul hFp
 have e1:=h.ext
 clear h
 obtain⟨w1,rfl⟩:∃ x,x=w:=⟨_,rfl⟩
 have h:=Hp.init [] w1
 refine jt.mk (fun i W=>∃ q:Nat,q<=3/\i=.int .i64 q/\Hp [] w1 W []) (fun i _=>match i with | .int _ x=>3 - x.toNat | _=>0) ⟨0,by omega,rfl,h⟩ ?_
 clear h
 rintro _ W ⟨q,hq,rfl,h⟩
 by_cases hq2:q < 3
 ·refine Exists.elim (p:=fun x=>ul[q]?=some x) ⟨_,List.getElem?_eq_getElem (by omega)⟩ fun x hx=>?_
  refine Exists.elim (hu x (List.mem_of_getElem? hx)) fun l hFx=>?_
  have sx:iY (ul.flatMap fV) (q * 1) (fV x):=cZ (f:=fV) (fun _=>rfl) hx
  refine cy (by omega) (co (lU h ‹_› (by omega) fun zb zo zk zv zc=>?_))
  refine Ni h ‹_› ‹_› (by rfl) ?_
  exact S8 (hM.hE.ext (e1.tr h.ext)) (hA.ext (e1.tr h.ext)) hl (b20.ext (e1.tr h.ext)) (hFx.ext h.ext) (by omega) fun W e=>⟨⟨q+1,by omega,rfl,h.x e⟩,by show 3 - ((q:Int)+1).toNat < 3 - (q:Int).toNat;omega⟩
 ·refine cD (by omega) (cf (cF (by omega) (by omega) ?_))
  exact hk _ (e1.tr h.ext)
set_option maxHeartbeats 16000000 in
theorem Tc{W0:World}(hw0:W0.drew=w0):fj prog (.int .i64 lm) (.int .i64 b) (pr g18 0) (.agg #[.int .i64 own.op,.int .i64 own.ve,.int .i64 own.lim,bh own.m.1,bh own.m.2,bh own.a.1,bh own.a.2,bh own.b.1,bh own.b.2,.int .i64 own.st,.int .i64 own.th,.int .i64 own.sn,bh own.we.1,bh own.we.2,.bool own.ru]) (pr g20 0) (pr g15 0) (.slice xa ya za) (.int .i64 (i:Int)) k2 W0 R:=by
 subst hw0
 have b18:=hM.b18
 have hb:=hM.hb
 have hlm:=hM.hlm
 obtain⟨xx,hxx⟩:∃ xx:I6,xx=fun j=>if j=0 then b else if j=1 then lm else if j=2 then lm.tdiv 40 else if j=3 then b.tdiv 7 else if j=4 then lm.tdiv 7 else b.tdiv 11:=⟨_,rfl⟩
 have hxk:∀ j,eS (xx j):=fun j=>by
  rw[hxx]
  show eS (if j=0 then b else if j=1 then lm else if j=2 then lm.tdiv 40 else if j=3 then b.tdiv 7 else if j=4 then lm.tdiv 7 else b.tdiv 11)
  split
  ·exact hb
  ·split
   ·exact hlm
   ·split
    ·exact kC hlm
    ·split
     ·exact kC hb
     ·split
      ·exact kC hlm
      ·exact kC hb
 have cc1:∀ {W:World},bK W0.drew W->Calls prog 21 #[.agg #[.int .i64 b,.int .i64 lm,.int .i64 (lm.tdiv 40),.int .i64 (b.tdiv 7),.int .i64 (lm.tdiv 7),.int .i64 (b.tdiv 11)]] W (bQ fun r w'=>bK W w'/\r=vC (tA xx).op (tA xx).ve (tA xx).lim (tA xx).m (tA xx).a (tA xx).b (tA xx).st (tA xx).th (tA xx).sn (tA xx).we (tA xx).ru):=fun {W} _=>by
  have:=Gp (w0:=W) hxk
  rw[hxx]at this ⊢
  exact this
 have hwk:WRk (tA xx):=by rw[Lm];exact IJ (B6 xx)
 obtain⟨z,hz⟩:∃ z,tA xx=z:=⟨_,rfl⟩
 rw[hz]at cc1 hwk
 clear hz hxx hxk
 unfold fj
 have h:=Hp.init [] W0.drew
 refine zF (by omega) (by omega) (by omega) (zF (by omega) (by omega) (by omega) (zF (by omega) (by omega) (by omega) (zF (by omega) (by omega) (by omega) (nS (PC.cons (by rfl) (PC.cons (by rfl) (PC.cons (by rfl) (PC.cons (by rfl) (PC.cons (by rfl) (PC.cons (by rfl) PC.nil)))))) (by rfl) ?_))))
 refine ce h jU (cc1 h.ext) fun w h=>?_
 refine eT h ‹_› (by rfl) ?_
 refine AH (vs:=[_,_]) h (.cons (by rfl) (by rfl) (.cons (by rfl) (by rfl) .nil)) (by rfl) (by rfl) (by decide) (by decide) (by decide) fun v1 w h=>?_
 refine QH (qZ 0 h rfl) ?_
 obtain⟨ul,hul⟩:∃ ul:List WR,ul=[own,z]:=⟨_,rfl⟩
 have hn2:ul.length=2:=by rw[hul];rfl
 have hu:∀ x∈ul,WRk x:=by
  rw[hul]
  intro x hx
  rcases List.mem_cons.1 hx with e | hx
  ·rw[e];exact hM.own
  ·rw[List.mem_singleton.1 hx];exact hwk
 have hs:dJ w 15 v1 ul.length (ul.flatMap fW):=by rw[hul];exact h.sl (i:=0) rfl
 clear hul cc1
 have e1:=h.ext
 clear h
 obtain⟨w1,rfl⟩:∃ x,x=w:=⟨_,rfl⟩
 have h:=Hp.init [] w1
 refine jt.mk (fun i W=>∃ q:Nat,q<=2/\i=.int .i64 q/\Hp [] w1 W []) (fun i _=>match i with | .int _ x=>2 - x.toNat | _=>0) ⟨0,by omega,rfl,h⟩ ?_
 clear h
 rintro _ W ⟨q,hq,rfl,h⟩
 by_cases hq2:q < 2
 ·refine Exists.elim (p:=fun x=>ul[q]?=some x) ⟨_,List.getElem?_eq_getElem (by omega)⟩ fun x hx=>?_
  have sx:iY (ul.flatMap fW) (q * 15) (fW x):=cZ (f:=fW) (fun _=>rfl) hx
  refine cy (by omega) (co (lU h ‹_› (by omega) fun zb zo zk zv zc=>?_))
  refine wD h ‹_› ‹_› (by rfl) ?_
  exact S9 (hM.hE.ext (e1.tr h.ext)) (hA.ext (e1.tr h.ext)) hl (b20.ext (e1.tr h.ext)) (hu x (List.mem_of_getElem? hx)) (by omega) fun W e=>⟨⟨q+1,by omega,rfl,h.x e⟩,by show 2 - ((q:Int)+1).toNat < 2 - (q:Int).toNat;omega⟩
 ·refine cD (by omega) (cf ?_)
  replace h:=h.dr
  refine di ?_
  exact Tb (hM.ext (e1.tr h.ext)) (hA.ext (e1.tr h.ext)) hl hi (fun W e=>hk W ((e1.tr h.ext).tr e)) (b20.ext (e1.tr h.ext)) rfl
set_option maxHeartbeats 16000000 in
theorem Td:fk prog (pr g20 0) (pr g20 0) (pr g18 0) (.int .i64 lm) (.int .i64 b) (pr g15 0) (.slice xa ya za) (.int .i64 (i:Int)) k2 w0 R:=by
 have b18:=hM.b18
 obtain⟨P,E,hP,ho⟩:=HJ hA.hp
 obtain⟨P',E',hf⟩:=HK p l
 have cc1:=fun {W:World} (e:bK w0 W)=>(ho W (hM.hE.ext e)).1
 have cc2:=fun {W:World} (e:bK w0 W)=>(ho W (hM.hE.ext e)).2
 have cc3:=fun {W:World} (e:bK w0 W)=>(hf W _ (hM.hE.ext e) (hA.ext e)).1
 have cc4:=fun {W:World} (e:bK w0 W)=>(hf W _ (hM.hE.ext e) (hA.ext e)).2
 have cc5:∀ {W:World},bK w0 W->Calls prog 16 #[vA P (.slice none 0 0),vA P (.slice none 0 0)] W (bQ fun r w'=>bK W w'/\r=.bool true):=fun {W} e=>by
  have hn:dJ W 15 (.slice none 0 0) ([]:List WR).length (([]:List WR).flatMap fW):=((Hp.init [] W).nil gM 15).sl (i:=0) rfl
  have hk:Ak W P (.slice none 0 0) ([]:List WR):=⟨hP,hn,by simp,by simp⟩
  have:=vj hk hk
  rw[BP]at this
  exact this
 clear ho hf
 unfold fk
 have h:=Hp.init [] w0
 refine uJ h ‹_› (by rfl) ?_
 refine ce h mU (cc1 h.ext) fun w h=>?_
 refine gN (du h fun g1 w h=>?_)
 refine de h 0 rfl rfl rfl rfl fun w h=>?_
 refine ck (uJ h ‹_› (by rfl) ?_)
 refine ce h C1 (cc2 h.ext) fun w h=>?_
 refine gN (du h fun g2 w h=>?_)
 refine de h 0 rfl rfl rfl rfl fun w h=>?_
 refine uJ h ‹_› (by rfl) ?_
 refine ce h vN (cc3 h.ext) fun w h=>?_
 refine gN (du h fun g3 w h=>?_)
 refine de h 0 rfl rfl rfl rfl fun w h=>?_
 refine uJ h ‹_› (by rfl) ?_
 refine ce h C2 (cc4 h.ext) fun w h=>?_
 refine gN (du h fun g4 w h=>?_)
 refine de h 0 rfl rfl rfl rfl fun w h=>?_
 dsimp only[List.set]at h
 refine cE (by omega) (ah (dy h 3 rfl rfl ?_))
 refine ah (dy h 2 rfl rfl ?_)
 refine ah (ce h mT (cc5 h.ext) fun w h=>?_)
 refine ah (ct (aw (ah (ah (ah (cE (by omega) (aw (ah (dy h 1 rfl rfl ?_)))))))))
 refine ah (dy h 0 rfl rfl ?_)
 refine ah (SJ ?_)
 refine aw (cf ?_)
 replace h:=h.dr
 refine uK h ‹_› (by rfl) ?_
 exact Tc (hM.ext h.ext) (hA.ext h.ext) hl hi (fun W e=>hk W (h.ext.tr e)) (b20.ext h.ext) rfl
end
set_option maxHeartbeats 16000000 in
theorem Te:fm prog (.agg #[bh p.1,bh p.2,.slice x20 y20 z20]) (pr g15 0) (pr g18 0) (.int .i64 lm) (.int .i64 b) (.slice xa ya za) (.int .i64 (i:Int)) k2 w0 R:=by
 have b15:=hM.b15
 have cc1:=fun {W:World} (e:bK w0 W)=>kF (w0:=W) (hM.hE.ext e) (hA.ext e)
 have cc2:=fun {W:World} (e:bK w0 W)=>iC (w0:=W) (hA.ext e)
 have cc3:=fun {W:World} (e:bK w0 W)=>Cy (w0:=W) (hA.ext e) (hM.hw.ext e)
 have cc4:=fun {W:World} (e:bK w0 W)=>vj (w0:=W) (hA.ext e) (hM.hw.ext e)
 obtain⟨v,hv⟩:∃ v,wu p l=v:=⟨_,rfl⟩
 obtain⟨s,hs⟩:∃ s,HP p (tx B) l (ws.map wr)=s:=⟨_,rfl⟩
 rw[hv]at cc1 cc2
 rw[hs]at cc3 cc4
 clear hv hs
 unfold fm
 have h:=Hp.init [] w0
 refine du h fun g1 w h=>?_
 refine de h 0 rfl rfl rfl rfl fun w h=>?_
 replace h:=h.dr
 refine fu h 0 rfl rfl ?_
 refine fu h 0 rfl rfl ?_
 refine ce h dZ (cc1 h.ext) fun w h=>?_
 refine cP h 0 rfl rfl ?_
 refine ce h dz (cc2 h.ext) fun w h=>?_
 dsimp only[List.set]at h
 refine QT ?_
 refine cg (fu h 0 rfl rfl ?_)
 refine cg (di (cg (uK h ‹_› (by rfl) ?_)))
 refine cg (fu h 0 rfl rfl ?_)
 refine cg (di (cg (uK h ‹_› (by rfl) ?_)))
 refine ah (ce h qn (cc3 h.ext) fun w h=>?_)
 refine wS ?_
 refine cP h 0 rfl rfl ?_
 refine wS ?_
 refine eT h ‹_› (by rfl) ?_
 refine ah (ce h mT (cc4 h.ext) fun w h=>?_)
 refine cg (QT ?_)
 refine dh (cf (ck ?_))
 exact Td (hM.ext h.ext) (hA.ext h.ext) hl hi (fun W e=>hk W (h.ext.tr e)) (h.get (i:=0) rfl)
end
structure A4 where
 p:RS
 x:Option Addr
 y:Nat
 z:Nat
 l:List WR
abbrev Sg(a:A4):List Value:=[bh a.p.1,bh a.p.2,.slice a.x a.y a.z]
section
variable{w0:World}{R:Ending->World->Prop}{b lm:Int}{B:Rat}{x15:Option Addr}{y15 z15:Nat}{xl:Option Addr}{yl zl:Nat}{rv:Value}{ws:List Wt}{fl l5:List Ft}{at0 g15 g10:Nat}{other:WR}{pr0:RS}{xr:Option Addr}{yr zr:Nat}{lr:List WR}{t5:Value}
variable(hE:En w0)(hb:eS b)(hlm:eS lm)(b15:cM w0 g15 Im [bh (tx B).1,bh (tx B).2,.slice x15 y15 z15,.slice xl yl zl,.int .i64 (at0:Int),rv])(hw:Ak w0 (tx B) (.slice x15 y15 z15) (ws.map wr))(hwl:ws.length<=12)(hF:Fk w0 (.slice xl yl zl) fl)(hat:at0<=fl.length)
 (b10:cM w0 g10 jA [bh pr0.1,bh pr0.2,.slice xr yr zr]) (hpr:K5 pr0) (sr:dJ w0 15 (.slice xr yr zr) lr.length (lr.flatMap fW)) (hkr:∀ r∈lr,WRB r) (hlr:lr.length<=9223372036854775807) (hot:WRB other) (s5:dJ w0 10 t5 l5.length (l5.flatMap fF)) (h5:∀ f∈l5,FI f) (n5:l5.length<=9223372036854775807)
 (hR:∀ W,bK w0 W->R (.returned (.bool true)) W)
include hE hb hlm b15 hw hwl hF hat b10 hpr sr hkr hlr hot s5 h5 n5 hR
set_option maxHeartbeats 16000000 in
theorem Tf:fo prog (.agg #[.int .i64 other.op,.int .i64 other.ve,.int .i64 other.lim,bh other.m.1,bh other.m.2,bh other.a.1,bh other.a.2,bh other.b.1,bh other.b.2,.int .i64 other.st,.int .i64 other.th,.int .i64 other.sn,bh other.we.1,bh other.we.2,.bool other.ru]) t5 (pr g15 0) (pr g10 0) (.int .i64 lm) (.int .i64 b) w0 R:=by
 have cf1:=fun {W:World} {v:Value} (hv:dJ W 15 v ([other]:List WR).length (([other]:List WR).flatMap fW))=>JN (w0:=W) (p:=([],[])) (l:=[other]) ⟨Nat.zero_le _,Nat.zero_le _⟩ hv (fun r hr=>by rw[List.mem_singleton.1 hr];exact hot) (by show 1<=_;decide)
 have cf2:=fun {W:World} (e:bK w0 W)=>JN (w0:=W) hpr (sr.ext e) hkr hlr
 have ok1:=GV hot
 have ok2:=L3 (n:=13) hkr
 have okl:=D3 lr 13
 unfold fo
 have h:=Hp.init [] w0
 refine lA h (by rfl) (by decide) (by rfl) (by decide) fun v1 w h=>?_
 refine u7 (PC.cons (by first | assumption | exact qY 0 h rfl) PC.nil) (by rfl) ?_
 refine cu xJ (cf1 (qZ 0 h rfl)) ?_
 rintro _ W1 ⟨x,y,z,rfl,h1⟩
 have h:=h.cat1 h1 dM
 clear h1 cf1
 have h:=h.pick [0] (by decide) rfl
 replace h:Hp [] w0 W1 [ro gM 15 (.slice x y z) 1 (([JM other]:List WR).flatMap fW)]:=h
 obtain⟨own,hown⟩:∃ own,JM other=own:=⟨_,rfl⟩
 rw[hown]at h ok1
 clear hown
 have so:iY (([own]:List WR).flatMap fW) (0 * 15) (fW own):=cZ (f:=fW) (fun _=>rfl) (l:=[own]) rfl
 refine UR rfl ?_
 refine SX h 0 rfl (by omega) (by omega) fun zg zk zv=>?_
 refine Uh h 0 rfl ‹_› ‹_› (by rfl) ?_
 refine du h fun g1 w h=>?_
 refine de h 0 rfl rfl rfl rfl fun w h=>?_
 refine gS (s5.hp h) ?_
 refine QL ?_
 refine S0 (s5.hp h) (by first | omega | decide) (by first | omega | decide) fun v2 p1=>?_
 replace h:=h.dr
 refine di (uK h ‹_› (by rfl) ?_)
 refine uK h ‹_› (by rfl) ?_
 dsimp only[List.set]at h
 have sp:=p1.2 _ s5
 clear p1
 obtain⟨xa,ya,za,rfl,_⟩:=sp.key
 have hm:(min (l5.length:Int) 10).toNat=(l5.take 10).length:=by rw[List.length_take];omega
 have hFl:Fk w0 (.slice xa ya za) (l5.take 10):=⟨by
  rw[hm]at sp
  have e:(l5.flatMap fF).take ((l5.take 10).length * 10)=(l5.take 10).flatMap fF:=by
   rw[wy (c:=10) (f:=fF) (fun _=>rfl)]
   congr 1
   rw[List.length_take]
   by_cases hc:l5.length<=10
   ·rw[List.take_of_length_le (by omega),List.take_of_length_le hc]
   ·rw[show min 10 l5.length=10 by omega]
  rw[e]at sp
  exact sp,fun f hf=>h5 f (List.mem_of_mem_take hf),by rw[List.length_take];omega⟩
 clear sp hm
 refine cu xJ (cf2 h.ext) ?_
 rintro _ W2 ⟨u,v,q,rfl,h1⟩
 have h:=h.cat1 h1 dM
 clear h1 cf2
 refine eT h ‹_› (by rfl) ?_
 refine AH (vs:=[_,_]) h (.cons (by rfl) (by rfl) (.cons (by rfl) (by rfl) .nil)) (by rfl) (by rfl) (by decide) (by decide) (by decide) fun v2 w h=>?_
 refine QH (qZ 0 h rfl) ?_
 obtain⟨al,hal⟩:∃ al:List A4,al=[⟨tx B,x15,y15,z15,ws.map wr⟩,⟨AU pr0,u,v,q,rO lr 13⟩]:=⟨_,rfl⟩
 have hn2:al.length=2:=by rw[hal];rfl
 have hu:∀ a∈al,Ak w a.p (.slice a.x a.y a.z) a.l/\a.l.length<=1000:=by
  rw[hal]
  intro a ha
  rcases List.mem_cons.1 ha with e | ha
  ·rw[e];exact⟨hw.ext h.ext,by show(ws.map wr).length<=1000;rw[List.length_map];omega⟩
  ·rw[List.mem_singleton.1 ha]
   exact⟨⟨zI _,h.sl (i:=1) rfl,ok2,by show(rO lr 13).length<=_;omega⟩,by show(rO lr 13).length<=_;omega⟩
 have hs:dJ w 3 v2 al.length (al.flatMap Sg):=by rw[hal];exact h.sl (i:=0) rfl
 have e1:=h.ext
 have hM:MrC w b lm B x15 y15 z15 xl yl zl rv ws fl (l5.take 10) at0 g15 g1 own xa ya za:=⟨hE.ext e1,hb,hlm,b15.ext e1,h.get (i:=2) rfl,hw.ext e1,hF.ext e1,hFl.ext e1,ok1,hat⟩
 clear hal h
 have b15:=b15.ext e1
 have hR:=fun W e=>hR W (e1.tr e)
 obtain⟨w1,rfl⟩:∃ x,x=w:=⟨_,rfl⟩
 have h:=Hp.init [] w1
 refine jt.mk (fun i W=>∃ k:Nat,k<=2/\i=.int .i64 k/\Hp [] w1 W []) (fun i _=>match i with | .int _ x=>2 - x.toNat | _=>0) ⟨0,by omega,rfl,h⟩ ?_
 clear h
 rintro _ W ⟨k,hk,rfl,h⟩
 by_cases hk2:k < 2
 ·refine Exists.elim (p:=fun x=>al[k]?=some x) ⟨_,List.getElem?_eq_getElem (by omega)⟩ fun a ha=>?_
  have sx:iY (al.flatMap Sg) (k * 3) (Sg a):=cZ (f:=Sg) (fun _=>rfl) ha
  have hua:=hu a (List.mem_of_getElem? ha)
  refine cy (by omega) (co (lU h ‹_› (by omega) fun zb zo zk zv zc=>?_))
  refine wD h ‹_› ‹_› (by rfl) ?_
  exact Te (hM.ext h.ext) (hua.1.ext h.ext) hua.2 (by omega) fun W e=>⟨⟨k+1,by omega,rfl,h.x e⟩,by show 2 - ((k:Int)+1).toNat < 2 - (k:Int).toNat;omega⟩
 ·refine cD (by omega) (cf (ck ?_))
  exact S7 (hE.ext (e1.tr h.ext)) hb hlm (b15.ext h.ext) (hF.ext (e1.tr h.ext)) (hFl.ext (e1.tr h.ext)) (fun W e=>hR W (h.ext.tr e)) rfl rfl
end
section
variable{w0:World}{b lm:Int}{v2 v3 t5:Value}{l3:List I3}{dl:List Dd}{l5:List Ft}{other:WR}{pr0:RS}{vr:Value}{lr:List WR}
variable(hE:En w0)(hb:eS b)(h2:dJ w0 3 v2 l3.length (l3.flatMap fT))(h3:dJ w0 8 v3 dl.length (dl.flatMap Nl))(o2:E6 l3)(o3:Uk dl)(n2:l3.length<=9223372036854775807)(n3:dl.length<=9223372036854775807)
 (hpr:K5 pr0) (sr:dJ w0 15 vr lr.length (lr.flatMap fW)) (hkr:∀ r∈lr,WRB r) (hlr:lr.length<=9223372036854775807) (hot:WRB other) (s5:dJ w0 10 t5 l5.length (l5.flatMap fF)) (h5:∀ f∈l5,FI f) (n5:l5.length<=9223372036854775807) (hlm:eS lm)
include hE hb h2 h3 o2 o3 n2 n3 hpr sr hkr hlr hot s5 h5 n5 hlm
set_option maxHeartbeats 16000000 in
theorem rR:Calls prog 3 #[.int .i64 b,v2,v3,vA pr0 vr,vW other,t5,.int .i64 lm] w0 (bQ fun r w'=>bK w0 w'/\r=.bool true):=by
 have ccs:=fun {W:World} (e:bK w0 W)=>Ow (w0:=W) (hE.ext e)
 have ccb:=fun {W:World} (e:bK w0 W)=>L2 (w0:=W) (hE.ext e) hb (h2.ext e) o2 n2
 have hV0:VB 0 (JK b) []:=JL b
 obtain⟨B,hB⟩:∃ B,JK b=B:=⟨_,rfl⟩
 obtain⟨fl,hfl⟩:∃ fl,q8 l3 30=fl:=⟨_,rfl⟩
 have hV:tC fl:=by rw[<-hfl];exact IE l3 (by decide)
 have hfn:fl.length<=30:=by rw[<-hfl];exact yT l3 30
 rw[hB]at ccb hV0
 rw[hfl]at ccb
 clear hB hfl
 obtain⟨xr,yr,zr,rfl,_⟩:=sr.key
 apply lV
 unfold ic vA vW
 have h:=Hp.init [] w0
 refine ep h fun g1 w h=>?_
 refine ep h fun g2 w h=>?_
 refine ce h CZ (ccs h.ext) fun w h=>?_
 refine ct (cf (cu Be (ccb h.ext) ?_))
 rintro _ W1 ⟨x,y,z,rfl,k1⟩
 have sF:=k1.sl (i:=0) rfl
 have e1:=h.ext.tr k1.ext
 have h3:=h3.ext e1
 have s5:=s5.ext e1
 have sr:=sr.ext e1
 have hE1:=hE.ext e1
 have h:=h.x k1.ext
 have bo:=(h.get (i:=0) rfl:cM W1 g2 _ _)
 have br:=(h.get (i:=1) rfl:cM W1 g1 _ _)
 obtain⟨Q,hQ⟩:∃ Q:Value->World->Prop,(fun r w'=>bK w0 w'/\r=.bool true)=Q:=⟨_,rfl⟩
 have hR:∀ W,bK W1 W->bQ Q (.returned (.bool true)) W:=fun W e=>by rw[<-hQ];exact bQ.mk ⟨e1.tr e,rfl⟩
 rw[hQ]
 clear h k1 ccb ccs hE h2 e1 hQ
 have h:=ON ((Hp.init [] W1).nil gM 15)
 refine gN (du h fun g3 w h=>?_)
 refine de h 0 rfl rfl rfl rfl fun w h=>?_
 refine ct (cf ?_)
 dsimp only[List.set]at h
 have h:=h.pick [1,0] (by decide) rfl
 refine jt.mk (fun i W=>∃(j:Nat) (s:St) (a:Option Addr) (c c':Nat) (d:Option Addr) (d' d'':Nat),j<=dl.length/\j<=12/\i=.int .i64 j/\VB (30 * j) B s.ws/\s.at'<=fl.length/\s.rg.length<=12 * j/\
  Hp [] W1 W [K3 (.slice a c c') s.ws.length ((s.ws.map wr).flatMap fW) (.slice d d' d'') s.rg.length (s.rg.flatMap fN),bx g3 Im [bh (tx B).1,bh (tx B).2,.slice a c c',.slice x y z,.int .i64 (s.at':Int),.slice d d' d'']])
  (fun i _=>match i with | .int _ i'=>dl.length - i'.toNat | _=>0)
  ⟨0,⟨[],0,[]⟩,_,_,_,_,_,_,by omega,by omega,rfl,hV0,by show 0<=_;omega,by show 0<=_;omega,h⟩ ?_
 clear h
 rintro _ W ⟨j,s,xw,yw,zw,xg,yg,zg,hj,hj12,rfl,hVB,hat,hrg,h⟩
 revert h
 revert W
 apply Qu
 ·intro W lfT h
  by_cases hj1:j < dl.length
  rotate_left
  ·refine gS (h3.hp h) ?_
   refine cD (by omega) (aK (aK (aw (cf (uJ h ‹_› (by rfl) ?_)))))
   exact lfT _ h
  by_cases hj2:j < 12
  rotate_left
  ·refine gS (h3.hp h) ?_
   refine cy (by omega) (aP (aP (cD (by omega) (aQ (cf (uJ h ‹_› (by rfl) ?_))))))
   exact lfT _ h
  clear lfT
  refine Exists.elim (p:=fun d=>dl[j]?=some d) ⟨_,List.getElem?_eq_getElem hj1⟩ fun d hd=>?_
  have sd:iY (dl.flatMap Nl) (j * 8) (Nl d):=cZ (f:=Nl) (fun _=>rfl) hd
  have hdk:=o3 d (List.mem_of_getElem? hd)
  have ccd:=fun {W':World} (e:bK W1 W') (hv:dJ W' 15 (.slice xw yw zw) s.ws.length ((s.ws.map wr).flatMap fW)) (hr:dJ W' 1 (.slice xg yg zg) s.rg.length (s.rg.flatMap fN))=>L0 (w0:=W') (n:=30 * j) (lv:=.slice x y z) (hE1.ext e) hVB (by omega) hv hr (Fk.of (sF.ext e) hV) hV hat (by omega) hdk
  refine gS (h3.hp h) ?_
  refine cy (by omega) (aP (aP (cy (by omega) (aQ (co ?_)))))
  replace h:=h.dr
  refine fu h 1 rfl rfl ?_
  refine nT h ‹_› (by omega) fun zb zo zk zv zc=>?_
  refine EZ h ‹_› ‹_› (by rfl) ?_
  refine cu uS (ccd h.ext (h.get (i:=0) rfl).1 (h.get (i:=0) rfl).2 (JI h).1 (JI h).2) ?_
  rintro _ W2 ⟨a,b',c,a2,b2,c2,rfl,e,su,sr,ou,or'⟩
  have h:=Lo h e su sr ou or'
  clear ccd su sr ou or'
  refine uP (de h 1 rfl rfl rfl rfl fun w h=>?_)
  refine ct (cf (cF (by omega) (by omega) ?_))
  dsimp only[List.set]at h
  exact⟨⟨j+1,AM B fl d s,_,_,_,_,_,_,by omega,by omega,rfl,(OJ d hVB (by omega) hV).mono (by omega),OK d hat,by have:=OL (fl:=fl) d hVB;omega,h⟩,by show dl.length - ((j:Int)+1).toNat < dl.length - (j:Int).toNat;omega⟩
 intro W h
 have hw:Ak W (tx B) (.slice xw yw zw) (s.ws.map wr):=hVB.ak (by omega) (h.get (i:=0) rfl).1
 have b15:cM W g3 Im [bh (tx B).1,bh (tx B).2,.slice xw yw zw,.slice x y z,.int .i64 (s.at':Int),.slice xg yg zg]:=h.get (i:=1) rfl
 have e2:=h.ext
 have bo:=bo.ext e2
 have br:=br.ext e2
 have sr:=sr.ext e2
 have s5:=s5.ext e2
 have hE2:=hE1.ext e2
 have hF2:=Fk.of (sF.ext e2) hV
 have hR2:=fun W' e=>hR W' (e2.tr e)
 have hlen:=hVB.len
 clear h hR hE1 sF h3 e2
 have h:=Hp.init [] W
 skip
 exact Tf hE2 hb hlm b15 hw hlen hF2 hat br hpr sr hkr hlr hot s5 h5 n5 hR2
end
end Go.Proofs.YtnkmbjedcjcccaaGreatDoor
