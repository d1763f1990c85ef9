/-
  Contracts and plain lemmas. By an AI agent.
-/
import Derived.Test.YtnkmbjedcjcccaaGreatDoorAlT
set_option linter.all false
namespace Go.Proofs.YtnkmbjedcjcccaaGreatDoor
open Tryz
open Go Go.Eng Go.Proofs Go.Num Go.RowKit
open Go.Alm (Ft Wt Sm VW VA dn gO obs obs1 dD obsN fresh fL)
set_option maxRecDepth 100000
section
variable{w0:World}{n:Int}{B:Rat}{s:St}{v lv rv:Value}{fl:List Ft}{d:Dd}(hE:En w0)(hB:VB n B s.ws)(hn:0<=n/\n+fl.length<=1000000)(hv:dJ w0 15 v s.ws.length ((s.ws.map wr).flatMap fW))(hr:dJ w0 1 rv s.rg.length (s.rg.flatMap fN))(hF:Fk w0 lv fl)(hfl:tC fl)(ha:s.at'<=fl.length)(hrg:s.rg.length<=1000000)(hd:Ddk d)
include hE hB hn hv hr hF hfl ha hrg hd
theorem OM(hsv:∀ k,v.ownBlock=some k->k < w0.heap.size)(hsr:∀ k,rv.ownBlock=some k->k < w0.heap.size):Calls prog 11 #[M0 B v lv s.at' rv,vD d] w0 (bQ (Sy w0 B (AM B fl d s) v lv rv)):=by
 by_cases hk:cQ d.kind 4=0
 ·exact Lp hE hB hn hv hr hF hfl ha hrg hd hk hsv hsr
 ·exact Lr hE hB hn hv hr hF hfl ha hrg hd hk
end
def JK(b:Int):Rat:=((1+cQ b 20:Int):Rat) / ((20:Int):Rat)
theorem Fs(b:Int):Sm 1 (JK b):=by
 have h:=dQ (c:=b) (n:=20) (by decide)
 exact Sm.divq (by omega) (by omega) (by decide)
theorem JL(b:Int):VB 0 (JK b) []:=⟨Fs b,by simp,by simp,(Fs b).ge⟩
theorem QQ(b:Int):yG (tx (JK b)):=by
 have h:=Sm.rb (Fs b) (.inl rfl)
 exact⟨cv h.n,cv h.d⟩
theorem L1{w0:World}{b:Int}(hE:En w0):Calls prog 17 #[vR (tx (JK b))] w0 (bQ fun r w'=>bK w0 w'/\r=.tuple #[vA (tx (JK b)) (.slice none 0 0),.int .i64 0]):=by
 have:=zJ (w0:=w0) hE (QQ b)
 rw[show wu (tx (JK b)) []=true from mC ⟨JK b,[],rfl,rfl,(JL b).va (by decide)⟩]at this
 exact this
set_option maxHeartbeats 8000000 in
theorem L2{w0:World}{b:Int}{v:Value}{l:List I3}(hE:En w0)(hb:eS b)(hv:dJ w0 3 v l.length (l.flatMap fT))(hok:E6 l)(hl:l.length<=9223372036854775807):
 Calls prog 10 #[.int .i64 b,v] w0 (bQ fun o w'=>∃ x y z,o=.tuple #[M0 (JK b) (.slice none 0 0) (.slice x y z) 0 (.slice none 0 0),.bool true]/\Hp [] w0 w' [ro UE 10 (.slice x y z) (q8 l 30).length ((q8 l 30).flatMap fF)]):=by
 have h20:=dQ (c:=b) (n:=20) (by decide)
 have cc1:=fun {W:World} (_:bK w0 W)=>nX (w:=W) (n:=20) hb (by decide)
 have cc2:∀ {W:World},bK w0 W->Calls prog 30 #[.int .i64 (1+cQ b 20),.int .i64 20] W (bQ fun r w'=>bK W w'/\r=vR (tx (JK b))):=fun {W} e=>AQ (w:=W) (hE.hT.ext e) (by omega) (by decide) (by decide)
 have cc3:=fun {W:World} (e:bK w0 W)=>L1 (w0:=W) (b:=b) (hE.ext e)
 apply Bc
 unfold ui
 have h:=Hp.init [] w0
 refine du h fun g1 w h=>?_
 refine ce h ec (cc1 h.ext) fun w h=>?_
 refine cF (by omega) (by omega) (ce h hZ (cc2 h.ext) fun w h=>?_)
 refine ce h mU (cc3 h.ext) fun w h=>?_
 refine gN (du h fun g2 w h=>?_)
 refine de h 0 rfl rfl rfl rfl fun w h=>?_
 replace h:=h.dr
 refine fu h 0 rfl rfl ?_
 refine jh (by omega) ?_
 dsimp only[List.set]at h
 refine cu Bh (Lh (hv.ext h.ext) hok hl) ?_
 rintro lv W1 h1
 refine Exists.elim (h1.sl (i:=0) rfl).key fun x hx=>Exists.elim hx fun y hx=>Exists.elim hx fun z hx=>?_
 have hx:=hx.1
 subst hx
 have h:=h.cat1 h1 dM
 clear h1
 refine cP h 1 rfl rfl ?_
 refine nS (PC.cons (by rfl) (PC.cons (by rfl) PC.nil)) (by rfl) ?_
 refine de h 2 rfl rfl rfl rfl fun w h=>?_
 refine mj h 2 rfl rfl ?_
 dsimp only[List.set]at h
 exact bQ.mk ⟨_,_,_,rfl,h.pick [0] (by decide) rfl⟩
abbrev S3(x:I6):List Value:=[.int .i64 (x 0),.int .i64 (x 1),.int .i64 (x 2),.int .i64 (x 3),.int .i64 (x 4),.int .i64 (x 5)]
def QR(l:List I6):Prop:=∀ x∈l,∀ i,eS (x i)
open Classical in
noncomputable def S4(B:Rat)(ws:List Wt)(w:Wt):List Wt:=if II B ws w then ws++[fresh ws w] else ws
theorem ON{w0 W:World}{L:List Et}{e:TypeId}{n:Nat}{v:Value}{xs:List Value}(h:Hp [] w0 W (ro e 15 v n xs::L)):Hp [] w0 W (K3 v n xs (.slice none 0 0) 0 []::L):=by
 have hnil:dJ W 1 (.slice none 0 0) 0 []:=(((Hp.init [] W).nil 3 1).sl (i:=0) rfl)
 have hnd:=List.pairwise_cons.1 h.nd
 have hks:=h.ks _ List.mem_cons_self
 have e0:(K3 v n xs (.slice none 0 0) 0 []).ks=(ro e 15 v n xs).ks:=List.append_nil _
 exact(h.drop 1).nw (IL (qZ 0 h rfl) hnil) (fun k hk=>hks k (by rw[<-e0];exact hk)) fun x hx k hk=>hnd.1 x hx k (by rw[<-e0];exact hk)
def AU(p:RS):RS:=(p.1.take 30,p.2.take 30)
abbrev JM(r:WR):WR:=⟨r.op,r.ve,r.lim,AU r.m,AU r.a,AU r.b,r.st,r.th,r.sn,AU r.we,r.ru⟩
def rO(l:List WR)(n:Nat):List WR:=(l.take n).map JM
theorem HI{l:List WR}{i:Nat}{r:WR}(h:l[i]?=some r):rO l (i+1)=rO l i++[JM r]:=by
 unfold rO
 rw[List.take_add_one,h,List.map_append]
 rfl
theorem D3(l:List WR)(n:Nat):(rO l n).length<=n:=by
 unfold rO;rw[List.length_map,List.length_take];omega
end Go.Proofs.YtnkmbjedcjcccaaGreatDoor
