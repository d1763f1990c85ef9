/-
  Contracts and plain lemmas. By an AI agent.
-/
import Derived.Test.YtnkmbjedcjcccaaGreatDoorEngT
import Derived.Test.YtnkmbjedcjcccaaGreatDoorEng
import Derived.Laws.CopyRow
import Derived.Lib.MinMax
import Derived.Laws.Bits64
import Derived.Lib.Strings
import Derived.Laws.Strings2
import Derived.DefersIn
import Derived.RecoverIn
set_option linter.all false
namespace Go.Eng
open Go Go.RowKit Go.Proofs
set_option maxRecDepth 100000
abbrev pr(g o:Nat):Value:=.pointer (some ⟨g,o,none⟩)
structure Mo(S:List Nat)(w w':World):Prop where
 os:w'.os=w.os
 tape:w'.tape=w.tape
 output:w'.output=w.output
 size:w.heap.size<=w'.heap.size
 block:∀ k,k < w.heap.size->k ∉ S->w'.heap[k]?=w.heap[k]?
theorem Mo.refl(S:List Nat)(w:World):Mo S w w:=⟨rfl,rfl,rfl,Nat.le_refl _,fun _ _ _=>rfl⟩
theorem Mo.tr{S:List Nat}{a b c:World}(h:Mo S a b)(k:Mo S b c):Mo S a c:=
 ⟨k.os.trans h.os,k.tape.trans h.tape,k.output.trans h.output,Nat.le_trans h.size k.size,fun i hi hs=>(k.block i (Nat.lt_of_lt_of_le hi h.size) hs).trans (h.block i hi hs)⟩
theorem Mo.mono{S S':List Nat}{a b:World}(h:Mo S a b)(hs:∀ k∈S,k∈S'\/a.heap.size<=k):Mo S' a b:=
 ⟨h.os,h.tape,h.output,h.size,fun i hi hn=>h.block i hi fun hc=>by rcases hs i hc with h | h;exact hn h;omega⟩
theorem Mo.ext{a b:World}(h:Mo [] a b):bK a b:=⟨h.os,h.tape,h.output,h.size,fun k hk=>h.block k hk (by simp)⟩
theorem Mo.of{S:List Nat}{a b:World}(h:bK a b):Mo S a b:=⟨h.os,h.tape,h.output,h.size,fun k hk _=>h.block k hk⟩
theorem Mo.grown{S:List Nat}{a b:World}{r:Option Nat}(h:a.grownBy b r)(hr:∀ k,r=some k->k∈S\/a.heap.size<=k):Mo S a b:=
 ⟨h.os,h.tape,h.output,h.size,fun k hk hs=>h.block k hk fun hc=>by rcases hr k hc.symm with h | h;exact hs h;omega⟩
structure Et where
 ks:List Nat
 Q:World->Prop
def Et.At(B:Nat)(S:List Nat)(e:Et)(w:World):Prop:=
 ∀ w',w.heap.size<=w'.heap.size->(∀ k,k < w.heap.size->(k∈e.ks\/(k < B/\k ∉ S))->w'.heap[k]?=w.heap[k]?)->e.Q w'
theorem Et.At.get{B:Nat}{S:List Nat}{e:Et}{w:World}(h:e.At B S w):e.Q w:=h w (Nat.le_refl _) fun _ _ _=>rfl
theorem Et.At.mv{B:Nat}{S:List Nat}{e:Et}{w w':World}(h:e.At B S w)(hs:w.heap.size<=w'.heap.size)(hb:∀ k,k < w.heap.size->(k∈e.ks\/(k < B/\k ∉ S))->w'.heap[k]?=w.heap[k]?):e.At B S w':=
 fun w'' h1 h2=>h w'' (Nat.le_trans hs h1) fun k hk hc=>(h2 k (Nat.lt_of_lt_of_le hk hs) hc).trans (hb k hk hc)
abbrev bx(g:Nat)(ty:TypeId)(cs:List Value):Et:=⟨[g],fun w=>cM w g ty cs⟩
abbrev ro(e:TypeId)(c:Nat)(v:Value)(n:Nat)(xs:List Value):Et:=⟨v.ownBlock.toList,fun w=>w.ownsRow 0 e c v n xs⟩
abbrev sq(c:Nat)(v:Value)(n:Nat)(xs:List Value):Et:=⟨v.ownBlock.toList,fun w=>dJ w c v n xs⟩
theorem GQ{B:Nat}{S:List Nat}{g:Nat}{ty:TypeId}{cs:List Value}{w:World}(h:cM w g ty cs):(bx g ty cs).At B S w:=
 fun w' _ hb=>(hb g h.lt (.inl (by simp))).trans h
theorem BE{B:Nat}{S:List Nat}{e:TypeId}{c n:Nat}{v:Value}{xs:List Value}{w:World}(h:w.ownsRow 0 e c v n xs):(ro e c v n xs).At B S w:=by
 intro w' _ hb
 have hl:=World.ownsRow.lt h
 obtain⟨h1,⟨rfl,h0⟩ | ⟨g,cap,cur,rfl,a,b,d⟩⟩:=h
 ·exact⟨h1,.inl ⟨rfl,h0⟩⟩
 ·exact⟨h1,.inr ⟨g,cap,cur,rfl,a,(hb g (hl g rfl).2 (.inl (by simp[Value.ownBlock]))).trans b,d⟩⟩
theorem dJ.mv{w w':World}{c n:Nat}{v:Value}{xs:List Value}(h:dJ w c v n xs)(hb:∀ k,v.ownBlock=some k->k < w.heap.size->w'.heap[k]?=w.heap[k]?):dJ w' c v n xs:=by
 obtain⟨h0,h | ⟨b,o,cap,rfl,h2,h3⟩⟩:=h
 ·exact⟨h0,.inl h⟩
 ·refine⟨h0,.inr ⟨b,o,cap,rfl,h2,fun i x hx=>?_⟩⟩
  have hc:=h3 i x hx
  rw[World.cell?_of_block (hb b rfl (World.block_lt_of_cell? w _ hc))]
  exact hc
structure Hp(S:List Nat)(w0 w:World)(L:List Et):Prop where
 mo:Mo S w0 w
 ok:∀ e∈L,e.At w0.heap.size S w
 ks:∀ e∈L,∀ k∈e.ks,k < w.heap.size/\(w0.heap.size<=k\/k∈S)
 nd:L.Pairwise fun a b=>∀ k∈a.ks,k ∉ b.ks
section
variable{S:List Nat}{w0 w:World}{L:List Et}
theorem Hp.ext(h:Hp [] w0 w L):bK w0 w:=h.mo.ext
theorem Hp.init(S:List Nat)(w:World):Hp S w w []:=⟨.refl _ _,by simp,by simp,.nil⟩
theorem Hp.mv(h:Hp S w0 w L){w':World}(hm:Mo S w w')(hb:∀ e∈L,∀ k∈e.ks,k < w.heap.size->w'.heap[k]?=w.heap[k]?):Hp S w0 w' L where
 mo:=h.mo.tr hm
 ok:=fun e he=>(h.ok e he).mv hm.size fun k hk hc=>by
  rcases hc with hc | ⟨h1,h2⟩
  ·exact hb e he k hc hk
  ·exact hm.block k hk h2
 ks:=fun e he k hk=>⟨Nat.lt_of_lt_of_le (h.ks e he k hk).1 hm.size,(h.ks e he k hk).2⟩
 nd:=h.nd
theorem Hp.x(h:Hp S w0 w L){w':World}(x:bK w w'):Hp S w0 w' L:=h.mv (.of x) fun _ _ k _ hk=>x.block k hk
theorem Hp.dr(h:Hp S w0 w L):Hp S w0 w.drew L:=h.x (bK.refl w).dr
theorem Hp.nw(h:Hp S w0 w L){e:Et}(he:e.At w0.heap.size S w)(hk:∀ k∈e.ks,k < w.heap.size/\(w0.heap.size<=k\/k∈S))(hn:∀ x∈L,∀ k∈e.ks,k ∉ x.ks):Hp S w0 w (e::L) where
 mo:=h.mo
 ok:=fun x hx=>by
  rcases List.mem_cons.1 hx with rfl | hx
  ·exact he
  ·exact h.ok x hx
 ks:=fun x hx=>by
  rcases List.mem_cons.1 hx with rfl | hx
  ·exact hk
  ·exact h.ks x hx
 nd:=.cons hn h.nd
theorem Hp.xn(h:Hp S w0 w L){w':World}(x:bK w w'){e:Et}(he:e.At w0.heap.size S w')(hk:∀ k∈e.ks,w.heap.size<=k/\k < w'.heap.size):Hp S w0 w' (e::L):=by
 refine(h.x x).nw he (fun k hk'=>⟨(hk k hk').2,.inl (Nat.le_trans h.mo.size (hk k hk').1)⟩) fun y hy k hk' hc=>?_
 have:=(h.ks y hy k hc).1
 have:=(hk k hk').1
 omega
theorem Hp.at(h:Hp S w0 w L){i:Nat}{e:Et}(hi:L[i]?=some e):e.At w0.heap.size S w:=h.ok e (List.mem_of_getElem? hi)
theorem Hp.get(h:Hp S w0 w L){i:Nat}{e:Et}(hi:L[i]?=some e):e.Q w:=(h.at hi).get
theorem Hp.up(h:Hp S w0 w L){i:Nat}{e e':Et}(hi:L[i]?=some e){w':World}(hm:Mo e.ks w w')(he:e'.At w0.heap.size S w')(hk:∀ k∈e'.ks,k∈e.ks\/(w.heap.size<=k/\k < w'.heap.size)):Hp S w0 w' (L.set i e'):=by
 have hem:e∈L:=List.mem_of_getElem? hi
 have hil:i < L.length:=(List.getElem?_eq_some_iff.1 hi).1
 have hie:L[i]=e:=(List.getElem?_eq_some_iff.1 hi).2
 have hke:=h.ks e hem
 have hdis:∀ j (hj:j < L.length),j≠i->∀ k∈L[j].ks,k ∉ e.ks:=by
  intro j hj hne k hk hc
  have hp:=List.pairwise_iff_getElem.1 h.nd
  rcases Nat.lt_or_ge j i with hl | hl
  ·exact hp j i hj hil hl k hk (hie ▸ hc)
  ·exact hp i j hil hj (by omega) k (hie ▸ hc) hk
 have hmo:Mo S w0 w':=by
  refine⟨hm.os.trans h.mo.os,hm.tape.trans h.mo.tape,hm.output.trans h.mo.output,Nat.le_trans h.mo.size hm.size,fun k hk hs=>?_⟩
  refine(hm.block k (Nat.lt_of_lt_of_le hk h.mo.size) fun hc=>?_).trans (h.mo.block k hk hs)
  rcases(hke k hc).2 with h1 | h1
  ·omega
  ·exact hs h1
 have hset:∀ j (hj:j < L.length),(L.set i e')[j]'(by simpa using hj)=if i=j then e' else L[j]:=fun j hj=>List.getElem_set (by simpa using hj)
 refine⟨hmo,?_,?_,?_⟩
 ·intro x hx
  obtain⟨j,hj,rfl⟩:=List.getElem_of_mem hx
  have hj':j < L.length:=by simpa using hj
  rw[hset j hj']
  split
  ·exact he
  ·next hne=>
   refine(h.ok _ (List.getElem_mem hj')).mv hm.size fun k hk hc=>hm.block k hk fun hx=>?_
   rcases hc with hc | ⟨h1,h2⟩
   ·exact hdis j hj' (fun hc'=>hne hc'.symm) k hc hx
   ·rcases(hke k hx).2 with h3 | h3
    ·omega
    ·exact h2 h3
 ·intro x hx
  obtain⟨j,hj,rfl⟩:=List.getElem_of_mem hx
  have hj':j < L.length:=by simpa using hj
  rw[hset j hj']
  split
  ·intro k hk'
   have hs:=h.mo.size
   rcases hk k hk' with h1 | h1
   ·exact⟨Nat.lt_of_lt_of_le (hke k h1).1 hm.size,(hke k h1).2⟩
   ·exact⟨h1.2,.inl (by omega)⟩
  ·intro k hk'
   have:=h.ks _ (List.getElem_mem hj') k hk'
   exact⟨Nat.lt_of_lt_of_le this.1 hm.size,this.2⟩
 ·refine List.pairwise_iff_getElem.2 fun a b ha hb hab=>?_
  have ha':a < L.length:=by simpa using ha
  have hb':b < L.length:=by simpa using hb
  rw[hset a ha',hset b hb']
  have new:∀ j (hj:j < L.length),j≠i->∀ k∈L[j].ks,k ∉ e'.ks:=by
   intro j hj hne k hk' hc
   rcases hk k hc with h1 | h1
   ·exact hdis j hj hne k hk' h1
   ·have:=(h.ks _ (List.getElem_mem hj) k hk').1
    omega
  split
  ·next hia=>
   subst hia
   rw[if_neg (by omega)]
   exact fun k hk' hc=>new b hb' (by omega) k hc hk'
  ·next hia=>
   split
   ·next hib=>exact new a ha' (fun h=>hia h.symm)
   ·exact List.pairwise_iff_getElem.1 h.nd a b ha' hb' hab
theorem Hp.drop(h:Hp S w0 w L)(n:Nat):Hp S w0 w (L.drop n):=
 ⟨h.mo,fun e he=>h.ok e (List.mem_of_mem_drop he),fun e he=>h.ks e (List.mem_of_mem_drop he),h.nd.sublist (List.drop_sublist n L)⟩
end
class Agg (P:Program) (t:TypeId) (n:outParam Nat):Prop where
 ag:∀ w,(isAgg t).run P w=.ok true w
 sz:∀ w,(Go.sizeOf t).run P w=.ok n w
class One (P:Program) (t:TypeId):Prop where
 ag:∀ w,(isAgg t).run P w=.ok false w
 sz:∀ w,(Go.sizeOf t).run P w=.ok 1 w
class Zer (P:Program) (t:TypeId) (zs:outParam (List Value)):Prop where
 zr:∃ z:Value,(∀ w,(zeroValue t).run P w=.ok z w)/\z.cells=zs.toArray
class Fld (P:Program) (t:TypeId) (f:Nat) (off:outParam Nat):Prop where
 fa:∀ w g o,(Instr.fieldAt t (pr g o) f).run P w=.ok (pr g (o+off)) w
class Arr (P:Program) (t:TypeId) (n c:outParam Nat):Prop where
 ia:∀ w g o k (j:Nat),j < n->(Instr.indexAt t (pr g o) (.int k (j:Int))).run P w=.ok (pr g (o+j * c)) w
class Slt (P:Program) (t:TypeId) (e:outParam TypeId) (c:outParam Nat):Prop where
 un:P.underlying t=some (.slice e)
 sz:∀ w,(Go.sizeOf e).run P w=.ok c w
def BF{α β:Type}:Nat->List α->(List α->Option β)->Option β
 | 0,_,k=>k []
 | n+1,a::l,k=>BF n l fun r=>k (a::r)
 | _+1,[],_=>none
def BG{α β:Type}:Nat->List α->(List α->Option β)->Option β
 | 0,l,k=>k l
 | n+1,_::l,k=>BG n l k
 | _+1,[],_=>none
def EY(o n:Nat)(cs:List Value):Option (List Value):=BG o cs fun l=>BF n l some
def P4{β:Type}:List Value->List Value->(List Value->Option β)->Option β
 | [],cs,k=>k cs
 | v::vs,_::cs,k=>P4 vs cs fun r=>k (v::r)
 | _::_,[],_=>none
def Oz{β:Type}:Nat->List Value->List Value->(List Value->Option β)->Option β
 | 0,vs,cs,k=>P4 vs cs k
 | o+1,vs,c::cs,k=>Oz o vs cs fun r=>k (c::r)
 | _+1,_,[],_=>none
def wr(o:Nat)(vs cs:List Value):Option (List Value):=Oz o vs cs some
theorem DV{α β:Type}:∀(n:Nat) (l:List α) (k:List α->Option β),BF n l k=if n<=l.length then k (l.take n) else none
 | 0,l,k=>by simp[BF]
 | n+1,[],k=>by simp[BF]
 | n+1,a::l,k=>by simp[BF,DV n l]
theorem DW{α β:Type}:∀(n:Nat) (l:List α) (k:List α->Option β),BG n l k=if n<=l.length then k (l.drop n) else none
 | 0,l,k=>by simp[BG]
 | n+1,[],k=>by simp[BG]
 | n+1,a::l,k=>by simp[BG,DW n l]
theorem Fj{o n:Nat}{cs vs:List Value}(h:EY o n cs=some vs):vs=(cs.drop o).take n/\vs.length=n/\∀ i x,vs[i]?=some x->cs[o+i]?=some x:=by
 unfold EY at h
 rw[DW]at h
 split at h
 ·next h1=>
  rw[DV]at h
  split at h
  ·next h2=>
   cases h
   refine⟨rfl,by simp;simp at h2;omega,fun i x hx=>?_⟩
   rw[List.getElem?_take,List.getElem?_drop]at hx
   split at hx
   ·exact hx
   ·cases hx
  ·cases h
 ·cases h
theorem Jy{β:Type}:∀(vs cs:List Value) (k:List Value->Option β),P4 vs cs k=if vs.length<=cs.length then k (vs++cs.drop vs.length) else none
 | [],cs,k=>by simp[P4]
 | v::vs,[],k=>by simp[P4]
 | v::vs,c::cs,k=>by simp[P4,Jy vs cs]
theorem Fl{β:Type}:∀(o:Nat) (vs cs:List Value) (k:List Value->Option β),Oz o vs cs k=if o+vs.length<=cs.length then k (cs.take o++vs++cs.drop (o+vs.length)) else none
 | 0,vs,cs,k=>by simp[Oz,Jy]
 | o+1,vs,[],k=>by simp[Oz]
 | o+1,vs,c::cs,k=>by
  have h1:o+1+vs.length=o+vs.length+1:=by omega
  simp[Oz,Fl o vs cs,h1]
theorem QG{o:Nat}{vs cs cs':List Value}(h:wr o vs cs=some cs'):o+vs.length<=cs.length/\cs'=cs.take o++vs++cs.drop (o+vs.length):=by
 unfold wr at h
 rw[Fl]at h
 split at h
 ·next h1=>cases h;exact⟨h1,rfl⟩
 ·cases h
section
variable{P:Program}{t:TypeId}{n c:Nat}{w:World}{g o b:Nat}{ty:TypeId}{cs vs:List Value}{v:Value}
theorem DX(b o j:Nat):(⟨b,o,none⟩:Addr).add j=⟨b,o+j,none⟩:=r7 b o j
theorem yH[Agg P t n](h:dj w b o vs)(hl:vs.length=n):(Instr.loadAt t (pr b o)).run P w=.ok (.agg vs.toArray) w:=by
 subst hl
 have h2:=run_loadCells_list (P:=P) w ⟨b,o,none⟩ vs fun j v hj=>(DX b o j).symm ▸ h j v hj
 simp[Instr.loadAt,Instr.sureAddr,loadVar,Agg.ag (P:=P) (t:=t),Agg.sz (P:=P) (t:=t),h2]
theorem rK[One P t](h:w.cell? ⟨b,o,none⟩=some v):(Instr.loadAt t (pr b o)).run P w=.ok v w:=by
 simp only[Instr.loadAt,Instr.sureAddr,loadVar,Sem.run_bind,Sem.run_pure,Result.andThen_ok,One.ag (P:=P) (t:=t)]
 simp[run_load,h]
theorem BH(h:cM w g ty cs)(hc:EY o n cs=some vs):dj w g o vs/\vs.length=n:=by
 obtain⟨_,h2,h3⟩:=Fj hc
 exact⟨fun i x hx=>h.cell (h3 i x hx),h2⟩
theorem pW[Agg P t n](h:cM w g ty cs)(hc:EY o n cs=some vs):(Instr.loadAt t (pr g o)).run P w=.ok (.agg vs.toArray) w:=
 yH (BH h hc).1 (BH h hc).2
theorem pX[One P t](h:cM w g ty cs)(hc:cs[o]?=some v):(Instr.loadAt t (pr g o)).run P w=.ok v w:=rK (h.cell hc)
theorem zz(hn:∀ w,(Go.sizeOf t).run P w=.ok n w)(hv:v.cells.size=n):(Instr.storeAt t (pr g o) v).run P w=(storeCells ⟨g,o,none⟩ v.cells.toList).run P w:=by
 have:¬v.cells.size≠n:=fun h=>h hv
 simp[Instr.storeAt,Instr.sureAddr,storeVar,hn,hv]
theorem GR(h:cM w g ty cs)(hn:∀ w,(Go.sizeOf t).run P w=.ok n w)(hv:v.cells=vs.toArray)(hl:vs.length=n)(h1:∀ x∈vs,x.oneCell'=true){cs':List Value}(hw:wr o vs cs=some cs'):
 ∃ w',(Instr.storeAt t (pr g o) v).run P w=.ok () w'/\Mo [g] w w'/\cM w' g ty cs':=by
 obtain⟨h2,rfl⟩:=QG hw
 have hr:=run_storeCells_at P g o ty vs 0 cs.toArray w h (by simpa using h2) h1
 rw[zz hn (by rw[hv];simpa using hl),hv]
 refine⟨_,hr,⟨rfl,rfl,rfl,?_,fun k hk hs=>?_⟩,?_⟩
 ·simp[World.setRow]
 ·have:k≠g:=by simpa using hs
  simp[World.setRow,Array.getElem?_modify,this.symm]
 ·unfold cM
  rw[setRow_heap w g cs.toArray _ ty _ h]
  simp
end
section
variable{P:Program}{t:TypeId}{n c:Nat}{S:List Nat}{w0 w:World}{L:List Et}{g o b i:Nat}{ty:TypeId}{cs vs:List Value}{v:Value}{K:Value->World->Prop}{KP:Value->Prop}{KW:World->Prop}{rest:Prop}{wi:Bool}
theorem oH{s:Sem Value}{w':World}(h:s.run P w=.ok v w')(hk:K v w'):V P s w K:=⟨v,w',h,hk⟩
theorem dy[Agg P t n](h:Hp S w0 w L)(i:Nat)(hi:L[i]?=some (bx g ty cs))(hc:EY o n cs=some vs)(hk:K (.agg vs.toArray) w):Ld P t (pr g o) w K:=
 oH (pW (h.get hi) hc) hk
theorem ld1[One P t](h:Hp S w0 w L)(i:Nat)(hi:L[i]?=some (bx g ty cs))(hc:cs[o]?=some v)(hk:K v w):Ld P t (pr g o) w K:=
 oH (pX (h.get hi) hc) hk
theorem fu[Agg P t n](h:Hp S w0 w L)(i:Nat)(hi:L[i]?=some (bx g ty cs))(hc:EY o n cs=some vs)(hk:KP (.agg vs.toArray)):Dv P false (Instr.loadAt t (pr g o)) w KP:=
 ⟨_,pW (h.get hi) hc,hk⟩
theorem iX[One P t](h:Hp S w0 w L)(i:Nat)(hi:L[i]?=some (bx g ty cs))(hc:cs[o]?=some v)(hk:KP v):Dv P false (Instr.loadAt t (pr g o)) w KP:=
 ⟨_,pX (h.get hi) hc,hk⟩
theorem cP[Agg P t n](h:Hp S w0 w L)(i:Nat)(hi:L[i]?=some (bx g ty cs))(hc:EY o n cs=some vs)(hk:rest):Ke P (Instr.loadAt t (pr g o)) (.agg vs.toArray) w rest:=
 ⟨pW (h.get hi) hc,hk⟩
theorem fU[One P t](h:Hp S w0 w L)(i:Nat)(hi:L[i]?=some (bx g ty cs))(hc:cs[o]?=some v)(hk:rest):Ke P (Instr.loadAt t (pr g o)) v w rest:=
 ⟨pX (h.get hi) hc,hk⟩
theorem mj[Agg P t n](h:Hp S w0 w L)(i:Nat)(hi:L[i]?=some (bx g ty cs))(hc:EY 0 n cs=some vs)(hk:KP (.agg vs.toArray)):Rc P t (pr g 0) w KP:=
 ⟨_,pW (P:=P) (t:=t) (h.get hi) hc,hk⟩
theorem T8[Agg P t n](hc:dj w b o vs)(hl:vs.length=n)(hk:K (.agg vs.toArray) w):Ld P t (pr b o) w K:=oH (yH hc hl) hk
theorem T9[One P t](hc:dj w b o vs)(hl:vs[0]?=some v)(hk:K v w):Ld P t (pr b o) w K:=oH (rK (hc 0 v hl)) hk
theorem Ua[Agg P t n](hc:dj w b o vs)(hl:vs.length=n)(hk:KP (.agg vs.toArray)):Dv P false (Instr.loadAt t (pr b o)) w KP:=⟨_,yH hc hl,hk⟩
theorem Ub[One P t](hc:dj w b o vs)(hl:vs[0]?=some v)(hk:KP v):Dv P false (Instr.loadAt t (pr b o)) w KP:=⟨_,rK (hc 0 v hl),hk⟩
theorem Uc[Agg P t n](hc:dj w b o vs)(hl:vs.length=n)(hk:rest):Ke P (Instr.loadAt t (pr b o)) (.agg vs.toArray) w rest:=⟨yH hc hl,hk⟩
theorem Ud[One P t](hc:dj w b o vs)(hl:vs[0]?=some v)(hk:rest):Ke P (Instr.loadAt t (pr b o)) v w rest:=⟨rK (hc 0 v hl),hk⟩
theorem ck{f off:Nat}[Fld P t f off](hk:K (pr g (o+off)) w):Fa P t (pr g o) f w K:=oH (Fld.fa _ _ _) hk
theorem di{f off:Nat}[Fld P t f off](hk:KP (pr g (o+off))):Dv P wi (Instr.fieldAt t (pr g o) f) w KP:=by
 cases wi
 ·exact⟨_,Fld.fa _ _ _,hk⟩
 ·exact⟨_,fun w'=>Fld.fa w' _ _,hk⟩
theorem UN[Arr P t n c]{k:IntKind}{j:Nat}(hj:j < n)(hk:K (pr g (o+j * c)) w):Ia P t (pr g o) (.int k (j:Int)) w K:=oH (Arr.ia _ _ _ _ _ hj) hk
theorem UO[Arr P t n c]{k:IntKind}{j:Nat}(hj:j < n)(hk:KP (pr g (o+j * c))):Dv P wi (Instr.indexAt t (pr g o) (.int k (j:Int))) w KP:=by
 cases wi
 ·exact⟨_,Arr.ia _ _ _ _ _ hj,hk⟩
 ·exact⟨_,fun w'=>Arr.ia w' _ _ _ _ hj,hk⟩
theorem Hp.al(h:Hp S w0 w L)(cs:List Value)(ty:TypeId):Hp S w0 (w.alloc (.cells cs.toArray ty)) (bx w.heap.size ty cs::L):=
 h.xn ((bK.refl w).al _) (GQ (cM.al w cs ty)) (by simp)
theorem du{zs:List Value}[hz:Zer P t zs](h:Hp S w0 w L)(hk:∀ g w1,Hp S w0 w1 (bx g t zs::L)->K (pr g 0) w1):Al P t w K:=by
 obtain⟨z,h1,h2⟩:=hz.zr
 refine oH (P:=P) (v:=pr w.heap.size 0) (w':=w.alloc (.cells zs.toArray t)) ?_ (hk _ _ (h.al zs t))
 simp[Instr.alloc,h1,newVar,newRow,h2]
theorem ep(h:Hp S w0 w L)(hk:∀ g w1,Hp S w0 w1 (bx g t cs::L)->K (pr g 0) w1):Bx P t (.agg cs.toArray) w K:=by
 refine oH (P:=P) (v:=pr w.heap.size 0) (w':=w.alloc (.cells cs.toArray t)) ?_ (hk _ _ (h.al cs t))
 simp[Instr.box,newVar,newRow,Value.cells]
theorem Ue(h:Hp S w0 w L)(hv:v.cells=#[v])(hk:∀ g w1,Hp S w0 w1 (bx g t [v]::L)->K (pr g 0) w1):Bx P t v w K:=by
 refine oH (P:=P) (v:=pr w.heap.size 0) (w':=w.alloc (.cells [v].toArray t)) ?_ (hk _ _ (h.al [v] t))
 simp[Instr.box,newVar,newRow,hv]
theorem de[hA:Agg P t n](h:Hp S w0 w L)(i:Nat)(hi:L[i]?=some (bx g ty cs))(hl:vs.length=n)(h1:(vs.all fun x=>x.oneCell')=true){cs':List Value}(hw:wr o vs cs=some cs')
 (hk:∀ w1,Hp S w0 w1 (L.set i (bx g ty cs'))->KW w1):cL P t (pr g o) (.agg vs.toArray) w KW:=by
 obtain⟨w',hr,hm,hb⟩:=GR (P:=P) (t:=t) (o:=o) (v:=.agg vs.toArray) (h.get hi) hA.sz (by rfl) hl (fun x hx=>List.all_eq_true.1 h1 x hx) hw
 exact⟨w',hr,hk w' (h.up hi hm (GQ hb) fun k hk=>.inl hk)⟩
theorem tl[hO:One P t](h:Hp S w0 w L)(i:Nat)(hi:L[i]?=some (bx g ty cs))(hv:v.cells=#[v])(h1:v.oneCell'=true){cs':List Value}(hw:wr o [v] cs=some cs')
 (hk:∀ w1,Hp S w0 w1 (L.set i (bx g ty cs'))->KW w1):cL P t (pr g o) v w KW:=by
 obtain⟨w',hr,hm,hb⟩:=GR (P:=P) (t:=t) (o:=o) (v:=v) (vs:=[v]) (h.get hi) hO.sz (by rw[hv]) rfl (fun x hx=>by rw[List.mem_singleton]at hx;rw[hx];exact h1) hw
 exact⟨w',hr,hk w' (h.up hi hm (GQ hb) fun k hk=>.inl hk)⟩
theorem ce{f:FuncId}{args:Array Value}{pan:List PanicEntry->World->Prop}(h:Hp S w0 w L)(hn:Enters P f)(hc:Calls P f args w (bQ fun r w'=>bK w w'/\r=v))(hk:∀ w1,Hp S w0 w1 L->K v w1):Cl P f args w pan K:=
 cu hn hc fun r w' ⟨x,e⟩=>by subst e;exact hk w' (h.x x)
theorem Hp.nil(h:Hp S w0 w L)(e:TypeId)(c:Nat):Hp S w0 w (ro e c (.slice none 0 0) 0 []::L):=
 h.nw (BE (World.ownsRow_nil w 0 e c)) (fun k hk=>by simp[Value.ownBlock]at hk) fun x _ k hk=>by simp[Value.ownBlock]at hk
theorem zA{e:TypeId}{base:Nat}{xs:List Value}(h:w.ownsRow base e c v n xs):w.ownsRow 0 e c v n xs:=by
 obtain⟨h1,h | ⟨g,cap,cur,h2,_,h3⟩⟩:=h
 ·exact⟨h1,.inl h⟩
 ·exact⟨h1,.inr ⟨g,cap,cur,h2,Nat.zero_le _,h3⟩⟩
theorem Hp.row(h:Hp S w0 w L){w':World}(x:bK w w'){e:TypeId}{xs:List Value}(hr:w'.ownsRow w.heap.size e c v n xs):Hp S w0 w' (ro e c v n xs::L):=
 h.xn x (BE (zA hr)) fun k hk=>World.ownsRow.lt hr k (by simpa using hk)
theorem Hp.sl(h:Hp S w0 w L){e:TypeId}{xs:List Value}(hi:L[i]?=some (ro e c v n xs)):dJ w c v n xs:=Fq (h.get hi)
theorem OA{T u:TypeId}[hs:Slt P t u c]{ti:TypeInfo}{z:Value}(hi:P.info? u=some ti)(hz:ti.zero=some z)(hsz:ti.size=c)(h2:ti.bytes<=4096)(hzs:z.cells.size=c)(hc:0 < c)
 {xs ys:List Value} (ho:w.ownsRow 0 u c v n xs) {v2:Value} {m:Nat} (hs2:dJ w c v2 m ys) (hy:∀ y∈ys,y.oneCell'=true) (hn:n+m<=16777216):
 ∃ v' w',(Builtin.append_ #[t,t] T #[v,v2]).run P w=.ok v' w'/\w'.ownsRow 0 u c v' (n+m) (xs++ys)/\w.grownBy w' v.ownBlock/\∀ k,v'.ownBlock=some k->v.ownBlock=some k\/(w.heap.size<=k/\k < w'.heap.size):=by
 have h63:n+m<=maxLen:=by unfold maxLen;omega
 have hby:(n+m) * ti.bytes<=140737488355328:=by have:=Nat.mul_le_mul hn h2;omega
 obtain⟨hl,⟨rfl,rfl⟩ | ⟨b,o,cap2,rfl,hcap,hcells⟩⟩:=hs2
 ·have:ys=[]:=List.eq_nil_of_length_eq_zero (by simpa using hl)
  subst this
  exact⟨v,w,run_append_owned_none w 0 t T u ti c hs.un hi v n xs ho,by simpa using ho,⟨rfl,rfl,rfl,Nat.le_refl _,fun _ _ _=>rfl⟩,fun k hk=>.inl hk⟩
 ·have hcells':∀ j u,ys[j]?=some u->w.cell? ((⟨b,o,none⟩:Addr).add j)=some u:=fun j u hu=>(DX b o j).symm ▸ hcells j u hu
  rcases ho.2 with ⟨rfl,rfl⟩ | ⟨g,cap,cur,rfl,hbg,hg,hnc,hcm,hcs,htake⟩
  ·have hx:xs=[]:=List.eq_nil_of_length_eq_zero (by simpa using ho.1)
   subst hx
   obtain⟨v',w',hr,ho',hg,_⟩:=run_append_own w w.heap.size t T u ti z c ti.bytes hs.un hi hz hsz rfl hzs hc _ 0 [] (World.ownsRow_nil w _ u c) ⟨b,o,none⟩ m cap2 ys hl hcells' hy h63 hby (Nat.le_refl _)
   exact⟨v',w',hr,zA ho',hg,fun k hk=>.inr (World.ownsRow.lt ho' k hk)⟩
  ·by_cases hroom:n+m<=cap
   ·obtain⟨w',hr,ho',hg'⟩:=run_append_fits (P:=P) w 0 t T u ti c hs.un hi hsz g n cap xs ho ⟨b,o,none⟩ m cap2 ys hl hcells' hy hroom
    exact⟨_,w',hr,ho',hg',fun k hk=>.inl hk⟩
   ·have holds:∀ j u,xs[j]?=some u->w.cell? ((⟨g,0,none⟩:Addr).add j)=some u:=ho.cells (g:=g) rfl
    subst hsz
    have hr:=run_append_grow (P:=P) w t T u ti z hs.un hi hz ⟨g,0,none⟩ n cap xs ho.1 holds ⟨b,o,none⟩ m cap2 ys hl hcells' (by omega) (by simp only[maxLen]at h63;omega) (growslice_fits (by omega) hby)
    have hge:=grownCap_ge w (n+m) cap u
    have hcm':grownCap w (n+m) cap u<=maxLen:=grownCap_le_maxLen w (n+m) cap u h63
    have hlen:(xs++ys).length=(n+m) * ti.size:=by rw[List.length_append,ho.1,hl,Nat.add_mul]
    refine⟨_,_,hr,⟨hlen,.inr ⟨w.heap.size,_,_,rfl,Nat.zero_le _,heap_alloc_new w.drew _,hge,hcm',?_,?_⟩⟩,⟨rfl,rfl,rfl,by simp,fun k hk _=>heap_alloc_old w.drew _ k hk⟩,fun k hk=>.inr ?_⟩
    ·simp only[Array.size_append,List.size_toArray,size_zeroCells,hzs,ho.1,hl,<-Nat.add_mul]
     congr 1
     omega
    ·simp only[Array.toList_append,List.append_assoc]
     rw[<-List.append_assoc,<-hlen]
     exact List.take_left
    ·simp[Value.ownBlock]at hk
     subst hk
     simp
theorem UP{T u:TypeId}[hs:Slt P t u c]{ti:TypeInfo}{z:Value}(hi:P.info? u=some ti)(hz:ti.zero=some z)(hsz:ti.size=c)(h2:ti.bytes<=4096)(hzs:z.cells.size=c)(hc:0 < c)
 (h:Hp S w0 w L) (k:Nat) {xs ys:List Value} (hL:L[k]?=some (ro u c v n xs)) {v2:Value} {m:Nat} (hs2:dJ w c v2 m ys) (hy:(ys.all fun x=>x.oneCell')=true) (hn:n+m<=16777216)
 (hk:∀ v' w1,Hp S w0 w1 (L.set k (ro u c v' (n+m) (xs++ys)))->K v' w1):Bt P .append #[t,t] T #[v,v2] w K:=by
 obtain⟨v',w',hr,ho',hg,hkey⟩:=OA (P:=P) (t:=t) (T:=T) hi hz hsz h2 hzs hc (h.get hL) hs2 (fun y hy'=>List.all_eq_true.1 hy y hy') hn
 show V P (Builtin.append_ #[t,t] T #[v,v2]) w K
 refine oH hr (hk v' w' (h.up hL (.grown hg fun k hk=>.inl (by simp[hk])) (BE ho') fun k hk=>?_))
 have hk':v'.ownBlock=some k:=by simpa using hk
 rcases hkey k hk' with h1 | h1
 ·exact .inl (by simp[h1])
 ·exact .inr h1
end
class Slm (P:Program) (t:TypeId) (e:outParam TypeId) (zs:outParam (List Value)):Prop where
 inf:∃ i z,P.info? e=some i/\i.zero=some z/\z.cells=zs.toArray/\i.size=zs.length/\i.bytes<=4096
section
variable{P:Program}{t:TypeId}{n c:Nat}{S:List Nat}{w0 w:World}{L:List Et}{g o b i:Nat}{ty e:TypeId}{cs vs xs ys:List Value}{v:Value}{K:Value->World->Prop}{KP:Value->Prop}{KW:World->Prop}{rest:Prop}{wi:Bool}
def iY(xs:List Value)(o:Nat)(vs:List Value):Prop:=∀ k v,vs[k]?=some v->xs[o+k]?=some v
theorem dj.seg(h:dj w b o xs){k:Nat}(hs:iY xs k vs):dj w b (o+k) vs:=fun i x hx=>by
 have:=h (k+i) x (hs i x hx)
 rw[Nat.add_assoc];exact this
theorem zB{α:Type}{f:α->List Value}(hf:∀ a,(f a).length=c):∀ l:List α,(l.flatMap f).length=l.length * c
 | []=>by simp
 | a::l=>by rw[List.flatMap_cons,List.length_append,hf,zB hf l,List.length_cons,Nat.add_mul];omega
theorem cZ{α:Type}{f:α->List Value}(hf:∀ a,(f a).length=c):∀ {l:List α} {j:Nat} {a:α},l[j]?=some a->iY (l.flatMap f) (j * c) (f a)
 | [],j,a,h=>by simp at h
 | x::l,0,a,h=>by
  simp at h;subst h
  intro k v hk
  rw[Nat.zero_mul,Nat.zero_add,List.flatMap_cons,List.getElem?_append_left (List.getElem?_eq_some_iff.1 hk).1]
  exact hk
 | x::l,j+1,a,h=>by
  intro k v hk
  have:=cZ hf (l:=l) (j:=j) (a:=a) (by simpa using h) k v hk
  rw[List.flatMap_cons,List.getElem?_append_right (by rw[hf,Nat.add_mul];omega),hf,show(j+1) * c+k - c=j * c+k by rw[Nat.add_mul];omega]
  exact this
theorem Uf[hs:Slt P t e c](h:dJ w c v n xs){k:IntKind}{j:Nat}(hj:j < n)(hk:∀ b o cap,v=.slice (some ⟨b,o,none⟩) n cap->dj w b o xs->K (pr b (o+j * c)) w):Ia P t v (.int k (j:Int)) w K:=by
 obtain⟨h0,⟨rfl,hn⟩ | ⟨b,o,cap,rfl,hc,hcells⟩⟩:=h
 ·omega
 ·refine oH ?_ (hk b o cap rfl hcells)
  have hn:j < n:=hj
  simp[Instr.indexAt,run_underlying hs.un,hs.sz,asIntOf,DX,hn]
theorem gS[hs:Slt P t e c]{T:TypeId}(h:dJ w c v n xs)(hk:K (.int .i64 (n:Int)) w):Bt P .len #[t] T #[v] w K:=by
 obtain⟨h0,⟨rfl,rfl⟩ | ⟨b,o,cap,rfl,hc,hcells⟩⟩:=h
 ·exact dw ⟨_,hs.un⟩ hk
 ·exact dw ⟨_,hs.un⟩ hk
theorem GS[hs:Slt P t e c]{T:TypeId}(h:dJ w c v n xs)(w':World):(bV .len #[t] T #[v]).run P w'=.ok (.int .i64 (n:Int)) w':=by
 obtain⟨h0,⟨rfl,rfl⟩ | ⟨b,o,cap,rfl,hc,hcells⟩⟩:=h
 ·simp[bV,Builtin.len_,run_underlying hs.un,goInt]
 ·simp[bV,Builtin.len_,run_underlying hs.un,goInt]
theorem QH[hs:Slt P t e c]{T:TypeId}(h:dJ w c v n xs)(hk:KP (.int .i64 (n:Int))):Dv P wi (bV .len #[t] T #[v]) w KP:=by
 cases wi
 ·exact⟨_,GS h w,hk⟩
 ·exact⟨_,fun w'=>GS h w',hk⟩
theorem dJ.part(h:dJ w c v n xs){lo hi:Nat}(h1:lo<=hi)(h2:hi<=n){a:Option Addr}{l m:Nat}(hv:v=.slice a l m):
 dJ w c (.slice (if m=lo then a else a.map (·.add (lo * c))) (hi - lo) (m - lo)) (hi - lo) ((xs.drop (lo * c)).take ((hi - lo) * c)):=by
 obtain⟨h0,⟨h3,h4⟩ | ⟨b,o,cap,h3,hc,hcells⟩⟩:=h
 ·rw[hv]at h3
  cases h3
  subst h4
  have:lo=0:=by omega
  have:hi=0:=by omega
  subst_vars
  exact⟨by simp,.inl ⟨by simp,rfl⟩⟩
 ·rw[hv]at h3
  cases h3
  refine⟨?_,.inr ?_⟩
  ·rw[List.length_take,List.length_drop,h0,<-Nat.sub_mul,Nat.min_eq_left]
   exact Nat.mul_le_mul_right c (by omega)
  ·by_cases hm:m=lo
   ·refine⟨b,o,m - lo,by rw[if_pos hm],by omega,fun i x hx=>?_⟩
    have:hi - lo=0:=by omega
    rw[this]at hx
    simp at hx
   ·refine⟨b,o+lo * c,m - lo,by rw[if_neg hm];simp[DX],by omega,fun i x hx=>?_⟩
    rw[List.getElem?_take,List.getElem?_drop]at hx
    split at hx
    ·rw[Nat.add_assoc];exact hcells _ _ hx
    ·cases hx
theorem dJ.key(h:dJ w c v n xs):∃ a l m,v=.slice a l m/\l=n/\n<=m:=by
 obtain⟨h0,⟨h3,h4⟩ | ⟨b,o,cap,h3,hc,hcells⟩⟩:=h
 ·exact⟨none,0,0,h3,h4.symm,by omega⟩
 ·exact⟨_,_,_,h3,rfl,hc⟩
theorem zC{a:Option Addr}{l m lo hi:Nat}:(Value.slice (if m=lo then a else a.map (·.add (lo * c))) (hi - lo) (m - lo)).ownBlock=(Value.slice a l m).ownBlock:=by
 cases a with
 | none=>simp[Value.ownBlock]
 | some a=>
  by_cases h:m=lo
  ·simp[h,Value.ownBlock]
  ·rw[if_neg h]
   show some (a.add _).block=some a.block
   unfold Addr.add
   split <;> rfl
theorem kq[hs:Slt P t e c]{zs:List Value}[hm:Slm P t e zs]{T:TypeId}(hcz:c=zs.length)(hc0:0 < zs.length)
 (h:Hp S w0 w L) (k:Nat) (hL:L[k]?=some (ro e c v n xs)) {v2:Value} {m:Nat} (hs2:dJ w c v2 m ys) (hy:(ys.all fun x=>x.oneCell')=true) (hn:n+m<=16777216)
 (hk:∀ v' w1,Hp S w0 w1 (L.set k (ro e c v' (n+m) (xs++ys)))->K v' w1):Bt P .append #[t,t] T #[v,v2] w K:=by
 obtain⟨ti,z,h1,h2,h3,h4,h5⟩:=hm.inf
 exact UP h1 h2 (by rw[h4,hcz]) h5 (by rw[h3,hcz];rfl) (by omega) h k hL hs2 hy hn hk
end
section
variable{P:Program}{t:TypeId}{n c:Nat}{S:List Nat}{w0 w:World}{L:List Et}{g o b i:Nat}{ty e:TypeId}{cs vs xs ys:List Value}{v:Value}{K:Value->World->Prop}{KP:Value->Prop}{KW:World->Prop}{rest:Prop}{wi:Bool}
theorem HG{g cap:Nat}(h:w.ownsRow 0 e c (.slice (some ⟨g,0,none⟩) n cap) n xs):dj w g 0 xs:=
 fun i x hx=>r7 g 0 i ▸ World.ownsRow.cells h (g:=g) rfl i x hx
theorem SO[hs:Slt P t e c](h:Hp S w0 w L)(k:Nat)(hL:L[k]?=some (ro ty c v n xs)){kk:IntKind}{j:Nat}(hj:j < n)(hk:∀ g cap,v=.slice (some ⟨g,0,none⟩) n cap->K (pr g (0+j * c)) w):Ia P t v (.int kk (j:Int)) w K:=by
 have ho:=h.get hL
 obtain⟨h0,⟨rfl,hn⟩ | ⟨g,cap,cur,rfl,_⟩⟩:=ho
 ·omega
 ·exact Uf (h.sl hL) hj fun b o cap' hv _=>by cases hv;exact hk g cap rfl
theorem DY{g cap:Nat}(h:w.ownsRow 0 e c (.slice (some ⟨g,0,none⟩) n cap) n xs)(hn:∀ w,(Go.sizeOf t).run P w=.ok vs.length w)(hv:v.cells=vs.toArray)(h1:∀ x∈vs,x.oneCell'=true)(ho:o+vs.length<=n * c):
 ∃ w',(Instr.storeAt t (pr g o) v).run P w=.ok () w'/\Mo [g] w w'/\w'.ownsRow 0 e c (.slice (some ⟨g,0,none⟩) n cap) n (xs.take o++vs++xs.drop (o+vs.length)):=by
 obtain⟨hx,⟨h',_⟩ | ⟨g',cap',cur,h',hb,hg,hnc,hcm,hcs,htake⟩⟩:=h
 ·cases h'
 ·cases h'
  have hle:n * c<=cap * c:=Nat.mul_le_mul_right c hnc
  have hr:=run_storeCells_at P g o e vs 0 cur w hg (by omega) h1
  rw[zz hn (by rw[hv];rfl),hv]
  refine⟨_,hr,⟨rfl,rfl,rfl,?_,fun k hk hs=>?_⟩,?_,.inr ⟨g,cap,_,rfl,Nat.zero_le _,setRow_heap w g cur _ e _ hg,hnc,hcm,?_,?_⟩⟩
  ·simp[World.setRow]
  ·have:k≠g:=by simpa using hs
   simp[World.setRow,Array.getElem?_modify,this.symm]
  ·simp only[List.length_append,List.length_take,List.length_drop,hx];omega
  ·simp only[List.size_toArray,List.length_append,List.length_take,List.length_drop,Array.length_toList,hcs];omega
  ·rw[Nat.add_zero]
   show List.take (n * c) (cur.toList.take o++vs++cur.toList.drop (o+vs.length))=_
   rw[<-htake,List.take_append,List.take_of_length_le (by simp;omega)]
   congr 1
   ·rw[List.take_take,Nat.min_eq_left (by omega)]
   ·rw[List.drop_take]
    congr 1
    simp only[List.length_append,List.length_take,Array.length_toList,hcs];omega
theorem SP[hA:Agg P t i](h:Hp S w0 w L)(k:Nat){cap:Nat}(hL:L[k]?=some (ro e c v n xs))(hv:v=.slice (some ⟨g,0,none⟩) n cap)(hl:vs.length=i)(h1:(vs.all fun x=>x.oneCell')=true)(ho:o+vs.length<=n * c)
 (hk:∀ w1,Hp S w0 w1 (L.set k (ro e c v n (xs.take o++vs++xs.drop (o+vs.length))))->KW w1):cL P t (pr g o) (.agg vs.toArray) w KW:=by
 subst hv
 obtain⟨w',hr,hm,hb⟩:=DY (P:=P) (t:=t) (o:=o) (v:=.agg vs.toArray) (h.get hL) (by rw[hl];exact hA.sz) rfl (fun x hx=>List.all_eq_true.1 h1 x hx) ho
 exact⟨w',hr,hk w' (h.up hL hm (BE hb) fun k hk=>.inl hk)⟩
theorem OC[hO:One P t](h:Hp S w0 w L)(k:Nat){cap:Nat}{u:Value}(hL:L[k]?=some (ro e c v n xs))(hv:v=.slice (some ⟨g,0,none⟩) n cap)(hu:u.cells=#[u])(h1:u.oneCell'=true)(ho:o < n * c)
 (hk:∀ w1,Hp S w0 w1 (L.set k (ro e c v n (xs.set o u)))->KW w1):cL P t (pr g o) u w KW:=by
 subst hv
 obtain⟨w',hr,hm,hb⟩:=DY (P:=P) (t:=t) (o:=o) (v:=u) (vs:=[u]) (h.get hL) hO.sz hu (fun x hx=>by rw[List.mem_singleton]at hx;rw[hx];exact h1) ho
 have hxl:xs.length=n * c:=(h.get hL).1
 have e1:xs.take o++[u]++xs.drop (o+[u].length)=xs.set o u:=by
  rw[List.set_eq_take_append_cons_drop,if_pos (by omega)];simp
 rw[e1]at hb
 exact⟨w',hr,hk w' (h.up hL hm (BE hb) fun k hk=>.inl hk)⟩
def lit(k:Nat):List Value->List (Nat×Value)
 | []=>[]
 | v::l=>(k,v)::lit (k+1) l
theorem zD:∀(l:List Value) (j o:Nat) (cs:Array Value),o+j+l.length<=cs.size->
 ((l.zipIdx j).foldl (fun(cs:Array Value) (x:Value×Nat)=>cs.setIfInBounds (o+x.2) x.1) cs).toList=cs.toList.take (o+j)++l++cs.toList.drop (o+j+l.length)
 | [],j,o,cs,_=>by simp
 | v::l,j,o,cs,h=>by
  have hl:(v::l).length=l.length+1:=rfl
  rw[hl]at h ⊢
  rw[List.zipIdx_cons,List.foldl_cons,zD l (j+1) o _ (by simp;omega)]
  have:=list_seg_step cs.toList (o+j) v l (by simp;omega)
  simp only[Array.toList_setIfInBounds]
  have e:o+(j+1)=o+j+1:=by omega
  rw[e,this]
theorem DZ{f:Value->List Value}:∀(vs:List Value) (k:Nat) (cur:Array Value) (done:List Value),(∀ v∈vs,v.cells=(f v).toArray/\(f v).length=c)->done.length=k * c->cur.size=done.length+vs.length * c->cur.toList.take (k * c)=done->
 Instr.fill (fun i=>some (i * c,c)) cur (lit k vs)=some (done++vs.flatMap f).toArray
 | [],k,cur,done,_,h1,h2,h3=>by
  have h2':cur.size=done.length:=by simpa using h2
  have h:cur.toList=done:=by rw[<-h3,List.take_of_length_le (by rw[Array.length_toList,h2',h1];exact Nat.le_refl _)]
  simp only[lit,Instr.fill,List.flatMap_nil,List.append_nil]
  rw[<-h,Array.toArray_toList]
 | v::vs,k,cur,done,hv,h1,h2,h3=>by
  obtain⟨a1,a2⟩:=hv v (by simp)
  rw[List.length_cons,Nat.add_mul]at h2
  have hsz:v.cells.size=c:=by rw[a1];simpa using a2
  have hguard:(v.cells.size≠c || k * c+v.cells.size > cur.size)=false:=by
   rw[hsz]
   simp
   omega
  simp only[lit,Instr.fill]
  have ha:Array.foldl (fun(cs:Array Value) (x:Value×Nat)=>cs.setIfInBounds (k * c+x.2) x.1) cur v.cells.zipIdx=(done++f v++cur.toList.drop (k * c+c)).toArray:=by
   rw[a1]
   apply Array.ext'
   have:=zD (f v) 0 (k * c) cur (by omega)
   rw[<-Array.foldl_toList]
   simp only[Array.toList_zipIdx]at this ⊢
   rw[this,Nat.add_zero,h3,a2]
  have hb:(v.cells.size≠c || k * c+v.cells.size > cur.size)=false:=hguard
  rw[show(if(decide (v.cells.size≠c) || decide (k * c+v.cells.size > cur.size))=true then none else Instr.fill (fun i=>some (i * c,c)) (Array.foldl (fun(cs:Array Value) (x:Value×Nat)=>cs.setIfInBounds (k * c+x.2) x.1) cur v.cells.zipIdx) (lit (k+1) vs))=Instr.fill (fun i=>some (i * c,c)) (Array.foldl (fun(cs:Array Value) (x:Value×Nat)=>cs.setIfInBounds (k * c+x.2) x.1) cur v.cells.zipIdx) (lit (k+1) vs) from by rw[hb];rfl]
  rw[ha]
  have ih:=DZ (f:=f) vs (k+1) (done++f v++cur.toList.drop (k * c+c)).toArray (done++f v) (fun x hx=>hv x (by simp[hx])) (by rw[List.length_append,h1,a2,Nat.add_mul];omega) (by
   simp only[List.size_toArray,List.length_append,List.length_drop,Array.length_toList,a2]
   omega) (by
   simp only
   rw[List.take_append,List.take_of_length_le (by rw[List.length_append,h1,a2,Nat.add_mul];omega),show(k+1) * c - (done++f v).length=0 by rw[List.length_append,h1,a2,Nat.add_mul];omega]
   simp)
  rw[ih,List.flatMap_cons,List.append_assoc]
theorem Ug{zs:List Value}[hs:Slt P t e c][hm:Slm P t e zs](f:Value->List Value)(hcz:c=zs.length)(h0:0 < zs.length)(h:Hp S w0 w L)(vs:List Value)(hv:∀ v∈vs,v.cells=(f v).toArray/\(f v).length=c)(hn:vs.length * c<=16777216)(hp:0 < vs.length)
 (hk:∀ v w1,(∃ g,v=.slice (some ⟨g,0,none⟩) vs.length vs.length)->Hp S w0 w1 (ro e c v vs.length (vs.flatMap f)::L)->K v w1):Bs P t vs.length (lit 0 vs) w K:=by
 obtain⟨ti,z,h1,h2,h3,h4,h5⟩:=hm.inf
 have hfl:(vs.flatMap f).length=vs.length * c:=by
  clear hn hp hk
  induction vs with
  | nil=>simp
  | cons v l ih=>rw[List.flatMap_cons,List.length_append,(hv v (by simp)).2,ih (fun x hx=>hv x (by simp[hx])),List.length_cons,Nat.add_mul];omega
 have hfill:Instr.fill (fun i=>some (i * ti.size,ti.size)) ((Array.range (vs.length * ti.size)).map (z.cells[· % z.cells.size]!)) (lit 0 vs)=some (vs.flatMap f).toArray:=by
  rw[h4,<-hcz]
  have:=DZ (c:=c) (f:=f) vs 0 ((Array.range (vs.length * c)).map (z.cells[· % z.cells.size]!)) [] hv (by simp) (by simp) (by simp)
  simpa using this
 have hpos:0 < vs.length * c:=Nat.mul_pos hp (by omega)
 have hr:=run_buildSlice (P:=P) w t e vs.length (lit 0 vs).toArray (vs.flatMap f).toArray ti z hs.un h1 h2 (by rw[h4,<-hcz];omega) (by rw[h4,<-hcz];omega) hfill
 refine oH hr (hk _ _ ⟨_,rfl⟩ (h.row ((bK.refl w).al _) ?_))
 have:=World.ownsRow_lit (base:=w.heap.size) (e:=e) (size:=c) w (vs.flatMap f).toArray vs.length (Nat.le_refl _) (by unfold maxLen;have:vs.length<=vs.length * c:=Nat.le_mul_of_pos_right _ (by omega);omega) (by simpa using hfl)
 exact this
theorem Hp.blk(h:Hp [] w0 w L)(hb:cM w0 g ty cs):cM w g ty cs:=hb.ext h.ext
theorem uJ[Agg P t n](h:Hp [] w0 w L)(hb:cM w0 g ty cs)(hc:EY o n cs=some vs)(hk:K (.agg vs.toArray) w):Ld P t (pr g o) w K:=oH (pW (h.blk hb) hc) hk
theorem P5[One P t](h:Hp [] w0 w L)(hb:cM w0 g ty cs)(hc:cs[o]?=some v)(hk:K v w):Ld P t (pr g o) w K:=oH (pX (h.blk hb) hc) hk
theorem uK[Agg P t n](h:Hp [] w0 w L)(hb:cM w0 g ty cs)(hc:EY o n cs=some vs)(hk:KP (.agg vs.toArray)):Dv P false (Instr.loadAt t (pr g o)) w KP:=⟨_,pW (h.blk hb) hc,hk⟩
theorem LW[One P t](h:Hp [] w0 w L)(hb:cM w0 g ty cs)(hc:cs[o]?=some v)(hk:KP v):Dv P false (Instr.loadAt t (pr g o)) w KP:=⟨_,pX (h.blk hb) hc,hk⟩
theorem eT[Agg P t n](h:Hp [] w0 w L)(hb:cM w0 g ty cs)(hc:EY o n cs=some vs)(hk:rest):Ke P (Instr.loadAt t (pr g o)) (.agg vs.toArray) w rest:=⟨pW (h.blk hb) hc,hk⟩
theorem QI[One P t](h:Hp [] w0 w L)(hb:cM w0 g ty cs)(hc:cs[o]?=some v)(hk:rest):Ke P (Instr.loadAt t (pr g o)) v w rest:=⟨pX (h.blk hb) hc,hk⟩
theorem SQ{a b c d:Value}{B:Value->Value->Value->Value->World->Prop}(h:B a b c d w):Ex (.tuple #[a,b,c,d]) 0 w fun t1 w=>Ex (.tuple #[a,b,c,d]) 1 w fun t2 w=>Ex (.tuple #[a,b,c,d]) 2 w fun t3 w=>Ex (.tuple #[a,b,c,d]) 3 w fun t4 w=>B t1 t2 t3 t4 w:=h
theorem tH{a:Addr}(h:K (.pointer (some a)) w):Nc (.pointer (some a)) w K:=h
theorem dj.hp(hc:dj w0 b o xs)(h:Hp [] w0 w L):dj w b o xs:=hc.ext h.ext
theorem dJ.hp(hc:dJ w0 c v n xs)(h:Hp [] w0 w L):dJ w c v n xs:=hc.ext h.ext
theorem lU[hs:Slt P t e c](h:Hp [] w0 w L)(hx:dJ w0 c v n xs){k:IntKind}{j:Nat}(hj:j < n)(hk:∀ b o cap,v=.slice (some ⟨b,o,none⟩) n cap->dj w0 b o xs->K (pr b (o+j * c)) w):Ia P t v (.int k (j:Int)) w K:=
 Uf (hx.hp h) hj fun b o cap hv _=>hk b o cap hv (by
  obtain⟨h0,⟨h1,hn⟩ | ⟨b',o',cap',h1,hc,hcells⟩⟩:=hx
  ·omega
  ·rw[hv]at h1;cases h1;exact hcells)
theorem Fm[hs:Slt P t e c]{cap:Nat}{k:IntKind}{j:Nat}(hj:j < n)(w':World):(Instr.indexAt t (.slice (some ⟨b,o,none⟩) n cap) (.int k (j:Int))).run P w'=.ok (pr b (o+j * c)) w':=by
 have hn:j < n:=hj
 simp[Instr.indexAt,run_underlying hs.un,hs.sz,asIntOf,DX,hn]
theorem nT[hs:Slt P t e c](h:Hp [] w0 w L)(hx:dJ w0 c v n xs){k:IntKind}{j:Nat}(hj:j < n)(hk:∀ b o cap,v=.slice (some ⟨b,o,none⟩) n cap->dj w0 b o xs->KP (pr b (o+j * c))):Dv P wi (Instr.indexAt t v (.int k (j:Int))) w KP:=by
 obtain⟨h0,⟨h1,hn⟩ | ⟨b',o',cap',rfl,hc,hcells⟩⟩:=hx
 ·omega
 ·cases wi
  ·exact⟨_,Fm hj _,hk _ _ _ rfl hcells⟩
  ·exact⟨_,fun w'=>Fm hj w',hk _ _ _ rfl hcells⟩
section
variable{k:Nat}{us:List Value}{u:Value}
theorem nY(hs:iY xs k vs){off:Nat}(hc:EY off n vs=some us):iY xs (k+off) us/\us.length=n:=
 ⟨fun i x hx=>by have:=hs (off+i) x ((Fj hc).2.2 i x hx);rw[Nat.add_assoc];exact this,(Fj hc).2.1⟩
theorem wD[Agg P t n](h:Hp [] w0 w L)(hc:dj w0 b o xs)(hs:iY xs k vs)(hl:vs.length=n)(hk:K (.agg vs.toArray) w):Ld P t (pr b (o+k)) w K:=T8 ((hc.seg hs).hp h) hl hk
theorem EZ[Agg P t n](h:Hp [] w0 w L)(hc:dj w0 b o xs)(hs:iY xs k vs)(hl:vs.length=n)(hk:KP (.agg vs.toArray)):Dv P false (Instr.loadAt t (pr b (o+k))) w KP:=Ua ((hc.seg hs).hp h) hl hk
theorem SS[Agg P t n](h:Hp [] w0 w L)(hc:dj w0 b o xs)(hs:iY xs k vs)(hl:vs.length=n)(hk:rest):Ke P (Instr.loadAt t (pr b (o+k))) (.agg vs.toArray) w rest:=Uc ((hc.seg hs).hp h) hl hk
theorem Ni[One P t](h:Hp [] w0 w L)(hc:dj w0 b o xs)(hs:iY xs k vs)(hl:vs[0]?=some u)(hk:K u w):Ld P t (pr b (o+k)) w K:=T9 ((hc.seg hs).hp h) hl hk
theorem QJ[One P t](h:Hp [] w0 w L)(hc:dj w0 b o xs)(hs:iY xs k vs)(hl:vs[0]?=some u)(hk:KP u):Dv P false (Instr.loadAt t (pr b (o+k))) w KP:=Ub ((hc.seg hs).hp h) hl hk
theorem UQ[One P t](h:Hp [] w0 w L)(hc:dj w0 b o xs)(hs:iY xs k vs)(hl:vs[0]?=some u)(hk:rest):Ke P (Instr.loadAt t (pr b (o+k))) u w rest:=Ud ((hc.seg hs).hp h) hl hk
theorem Sd[Agg P t n]{off:Nat}(h:Hp [] w0 w L)(hc:dj w0 b o xs)(hs:iY xs k vs)(hl:EY off n vs=some us)(hk:KP (.agg us.toArray)):Dv P false (Instr.loadAt t (pr b (o+k+off))) w KP:=by
 rw[Nat.add_assoc];exact EZ h hc (nY hs hl).1 (nY hs hl).2 hk
theorem ST[Agg P t n]{off:Nat}(h:Hp [] w0 w L)(hc:dj w0 b o xs)(hs:iY xs k vs)(hl:EY off n vs=some us)(hk:rest):Ke P (Instr.loadAt t (pr b (o+k+off))) (.agg us.toArray) w rest:=by
 rw[Nat.add_assoc];exact SS h hc (nY hs hl).1 (nY hs hl).2 hk
theorem wE(hs:iY xs k vs){off:Nat}(hl:vs[off]?=some u):iY xs (k+off) [u]:=fun i x hx=>by
 cases i with
 | zero=>simp at hx;subst hx;exact hs off u hl
 | succ i=>simp at hx
theorem Co[One P t]{off:Nat}(h:Hp [] w0 w L)(hc:dj w0 b o xs)(hs:iY xs k vs)(hl:vs[off]?=some u)(hk:K u w):Ld P t (pr b (o+k+off)) w K:=by
 rw[Nat.add_assoc];exact Ni h hc (wE hs hl) rfl hk
theorem pT[One P t]{off:Nat}(h:Hp [] w0 w L)(hc:dj w0 b o xs)(hs:iY xs k vs)(hl:vs[off]?=some u)(hk:KP u):Dv P false (Instr.loadAt t (pr b (o+k+off))) w KP:=by
 rw[Nat.add_assoc];exact QJ h hc (wE hs hl) rfl hk
theorem BI[One P t]{off:Nat}(h:Hp [] w0 w L)(hc:dj w0 b o xs)(hs:iY xs k vs)(hl:vs[off]?=some u)(hk:rest):Ke P (Instr.loadAt t (pr b (o+k+off))) u w rest:=by
 rw[Nat.add_assoc];exact UQ h hc (wE hs hl) rfl hk
end
theorem lA{zs:List Value}[hs:Slt P t e c][hm:Slm P t e zs](h:Hp S w0 w L)(hcz:c=zs.length)(h0:0 < zs.length)(hl:cs.length=c)(hn:c<=16777216)
 (hk:∀ v w1,Hp S w0 w1 (ro e c v 1 cs::L)->K v w1):Bs P t 1 [(0,.agg cs.toArray)] w K:=
 Ug (fun _=>cs) hcz h0 h [.agg cs.toArray] (by intro v hv;rw[List.mem_singleton]at hv;subst hv;exact⟨rfl,hl⟩) (by simpa using hn) Nat.one_pos fun v w1 _ h1=>hk v w1 (by simpa using h1)
class Bld (P:Program) (t:TypeId) (pl:outParam (List (Nat×Nat))) (zs:outParam (List Value)):Prop where
 bd:∀ ps cells w,Instr.fill (fun i=>pl[i]?) zs.toArray ps=some cells->(Instr.build t ps.toArray).run P w=.ok (.agg cells) w
def BJ{β:Type}(pl:List (Nat×Nat)):List (Nat×List Value)->List Value->(List Value->Option β)->Option β
 | [],cs,k=>k cs
 | (i,c)::r,cs,k=>match pl[i]? with
  | some (off,sz)=>bif Nat.beq c.length sz then Oz off c cs fun cs'=>BJ pl r cs' k else none
  | none=>none
inductive PC:List (Nat×Value)->List (Nat×List Value)->Prop where
 | nil:PC [] []
 | cons {i:Nat} {v:Value} {c:List Value} {l:List (Nat×Value)} {m:List (Nat×List Value)} (h:v.cells=c.toArray) (r:PC l m):PC ((i,v)::l) ((i,c)::m)
theorem Cp{pl:List (Nat×Nat)}:∀ {l:List (Nat×Value)} {m:List (Nat×List Value)} (hp:PC l m) {cs cs':List Value},BJ pl m cs some=some cs'->Instr.fill (fun i=>pl[i]?) cs.toArray l=some cs'.toArray
 | _,_,.nil,cs,cs',h=>by
  simp only[BJ,Option.some.injEq]at h
  simp only[Instr.fill,h]
 | _,_,.cons (i:=i) (v:=v) (c:=c) (l:=l) (m:=m) hv r,cs,cs',h=>by
  unfold BJ at h
  split at h
  ·next off sz hpl=>
   cases hb:Nat.beq c.length sz with
   | false=>rw[hb]at h;cases h
   | true=>
    rw[hb]at h
    have hsz:c.length=sz:=Nat.eq_of_beq_eq_true hb
    simp only[cond_true]at h
    rw[Fl]at h
    split at h
    ·next hle=>
     have ih:=Cp r h
     unfold Instr.fill
     simp only[hpl]
     rw[hv]
     have hg:(decide (c.toArray.size≠sz) || decide (off+c.toArray.size > cs.toArray.size))=false:=by
      simp[hsz];omega
     rw[if_neg (by rw[hg];decide)]
     have hf:(c.toArray.zipIdx.foldl (fun(cs:Array Value) (x:Value×Nat)=>cs.setIfInBounds (off+x.2) x.1) cs.toArray)=(cs.take off++c++cs.drop (off+c.length)).toArray:=by
      apply Array.ext'
      have:=zD c 0 off cs.toArray (by simpa using hle)
      rw[<-Array.foldl_toList]
      simp only[Array.toList_zipIdx]at this ⊢
      rw[this,Nat.add_zero]
     exact(congrArg (fun a=>Instr.fill (fun i=>pl[i]?) a l) hf).trans ih
    ·cases h
  ·cases h
section
variable{pl:List (Nat×Nat)}{zs:List Value}{ps:List (Nat×Value)}{m:List (Nat×List Value)}
theorem u7[hb:Bld P t pl zs](hp:PC ps m)(hf:BJ pl m zs some=some cs)(hk:K (.agg cs.toArray) w):Bd P t ps w K:=oH (hb.bd ps _ w (Cp hp hf)) hk
theorem nS[hb:Bld P t pl zs](hp:PC ps m)(hf:BJ pl m zs some=some cs)(hk:KP (.agg cs.toArray)):Dv P wi (Instr.build t ps.toArray) w KP:=by
 cases wi
 ·exact⟨_,hb.bd ps _ w (Cp hp hf),hk⟩
 ·exact⟨_,fun w'=>hb.bd ps _ w' (Cp hp hf),hk⟩
end
class Fdv (P:Program) (t:TypeId) (f:Nat) (ag:outParam Bool) (off n:outParam Nat):Prop where
 fd:∀ w (cs:List Value),(Instr.field t (.agg cs.toArray) f).run P w=(if ag then .ok (.agg (cs.toArray.extract off (off+n))) w else match cs[off]? with | some v=>.ok v w | none=>(stuck "part: no such cell":Sem Value).run P w)
section
variable{f off:Nat}{u:Value}{us:List Value}
theorem UR[hf:Fdv P t f false off n](hc:cs[off]?=some u)(hk:K u w):Fd P t (.agg cs.toArray) f w K:=
 oH (by rw[hf.fd,if_neg (by decide),hc]) hk
end
theorem QK{fs:List Field}{f:Nat}{fl:Field}{d:TypeDesc}{ti:TypeInfo}{ag:Bool}(hu:P.underlying t=some (.struct fs.toArray))(hf:fs[f]?=some fl)(hd:P.underlying fl.type=some d)(hg:(match d with | .struct _ | .array _ _=>true | _=>false)=ag)(hi:P.info? fl.type=some ti)(hs:ti.size=n):Fdv P t f ag fl.offset n where
 fd w cs:=by
  have hff:fs.toArray[f]?=some fl:=by simpa using hf
  have ha:∀ w,(isAgg fl.type).run P w=.ok ag w:=fun w=>by
   subst hg
   cases d <;> simp[isAgg,run_underlying hd]
  have hz:∀ w,(Go.sizeOf fl.type).run P w=.ok n w:=fun w=>by simp[Go.sizeOf,typeInfo,hi,hs]
  cases ag
  ·simp[Instr.field,run_underlying hu,hff,asAgg,part,ha]
   split <;> simp_all
  ·simp[Instr.field,run_underlying hu,hff,asAgg,part,ha,hz]
theorem oI{fs:List Field}{ti:TypeInfo}{z:Value}{zs:List Value}{pl:List (Nat×Nat)}(hu:P.underlying t=some (.struct fs.toArray))(hi:P.info? t=some ti)(hz:ti.zero=some z)(hc:z.cells=zs.toArray)
 (hp:fs.map (fun f=>(f.offset,((P.info? f.type).map (·.size)).getD 0))=pl) (hs:(fs.all fun f=>(P.info? f.type).isSome)=true):Bld P t pl zs where
 bd ps cells w h:=by
  have hm:∀(l:List Field),(∀ f∈l,(P.info? f.type).isSome=true)->∀ w,(l.mapM (m:=Sem) fun f=>do pure (f.offset,<-Go.sizeOf f.type)).run P w=.ok (l.map (fun f=>(f.offset,((P.info? f.type).map (·.size)).getD 0))) w:=by
   intro l
   induction l with
   | nil=>intro _ w;simp
   | cons f l ih=>
    intro hl w
    have h1:=hl f (by simp)
    cases hq:P.info? f.type with
    | none=>rw[hq]at h1;cases h1
    | some i=>
     have h2:=ih (fun x hx=>hl x (by simp[hx])) w
     have h3:(Go.sizeOf f.type).run P w=.ok i.size w:=by simp[Go.sizeOf,typeInfo,hq]
     rw[List.mapM_cons,Sem.run_bind,Sem.run_bind,h3]
     simp only[Result.andThen_ok,Sem.run_pure]
     rw[Sem.run_bind,h2]
     simp[hq]
  have hm':=hm fs (fun f hf=>List.all_eq_true.1 hs f hf) w
  rw[hp]at hm'
  have hma:(fs.toArray.mapM (m:=Sem) fun f=>do pure (f.offset,<-Go.sizeOf f.type)).run P w=.ok pl.toArray w:=by
   rw[List.mapM_toArray,Sem.run_map,hm'];rfl
  have hzz:∀ w,(zeroValue t).run P w=.ok z w:=fun w=>by simp[zeroValue,typeInfo,hi,hz]
  have hfl:Instr.fill (fun i=>pl.toArray[i]?) z.cells ps=some cells:=by
   rw[hc];simpa using h
  unfold Instr.build
  rw[Sem.run_bind,hzz]
  simp only[Result.andThen_ok,Sem.run_bind,run_underlying hu,hma,hfl]
  rfl
theorem OD{e:TypeId}{k:Nat}{ti te:TypeInfo}{z:Value}{zs:List Value}{pl:List (Nat×Nat)}(hu:P.underlying t=some (.array k e))(hi:P.info? t=some ti)(hz:ti.zero=some z)(hc:z.cells=zs.toArray)
 (he:P.info? e=some te) (hp:∀ i,i < k->pl[i]?=some (i * te.size,te.size)) (hk:pl.length=k) (hn:k * te.size=zs.length):Bld P t pl zs where
 bd ps cells w h:=by
  have hzz:∀ w,(zeroValue t).run P w=.ok z w:=fun w=>by simp[zeroValue,typeInfo,hi,hz]
  have h3:∀ w,(Go.sizeOf e).run P w=.ok te.size w:=fun w=>by simp[Go.sizeOf,typeInfo,he]
  have hfl:∀(ps:List (Nat×Value)) (cs cells:Array Value),Instr.fill (fun i=>pl[i]?) cs ps=some cells->Instr.fill (fun i=>some (i * te.size,te.size)) cs ps=some cells:=by
   intro ps
   induction ps with
   | nil=>intro cs cells h;exact h
   | cons x ps ih=>
    intro cs cells h
    obtain⟨i,v⟩:=x
    unfold Instr.fill at h ⊢
    by_cases hik:i < k
    ·simp only[hp i hik]at h
     simp only
     split at h
     ·cases h
     ·next hg=>rw[if_neg hg];exact ih _ _ h
    ·rw[List.getElem?_eq_none (by omega)]at h
     cases h
  unfold Instr.build
  rw[Sem.run_bind,hzz]
  simp only[Result.andThen_ok,Sem.run_bind,run_underlying hu,h3,hc,hfl ps _ _ h]
  rfl
theorem kt{d:TypeDesc}{ti:TypeInfo}(hu:P.underlying t=some d)(hd:(match d with | .struct _ | .array _ _=>true | _=>false)=true)(hi:P.info? t=some ti)(hs:ti.size=n):Agg P t n where
 ag w:=by
  cases d <;> simp at hd <;> simp[isAgg,run_underlying hu]
 sz w:=by simp[Go.sizeOf,typeInfo,hi,hs]
theorem nx{d:TypeDesc}{ti:TypeInfo}(hu:P.underlying t=some d)(hd:(match d with | .struct _ | .array _ _=>true | _=>false)=false)(hi:P.info? t=some ti)(hs:ti.size=1):One P t where
 ag w:=by
  cases d <;> simp at hd <;> simp[isAgg,run_underlying hu]
 sz w:=by simp[Go.sizeOf,typeInfo,hi,hs]
theorem ny{ti:TypeInfo}{z:Value}{zs:List Value}(hi:P.info? t=some ti)(hz:ti.zero=some z)(hc:z.cells=zs.toArray):Zer P t zs where
 zr:=⟨z,fun w=>by simp[zeroValue,typeInfo,hi,hz],hc⟩
theorem pp{ti:TypeInfo}(hu:P.underlying t=some (.slice e))(hi:P.info? e=some ti)(hs:ti.size=c):Slt P t e c where
 un:=hu
 sz w:=by simp[Go.sizeOf,typeInfo,hi,hs]
theorem rL{ti:TypeInfo}(hu:P.underlying t=some (.array n e))(hi:P.info? e=some ti)(hs:ti.size=c):Arr P t n c where
 ia w g o k j hj:=by
  have h1:(j:Int) < n:=by omega
  simp[Instr.indexAt,run_underlying hu,Instr.sureAddr,asIntOf,Go.sizeOf,typeInfo,hi,hs,DX,hj]
theorem pq{ti:TypeInfo}{z:Value}{zs:List Value}(hu:P.underlying t=some (.slice e))(hi:P.info? e=some ti)(hz:ti.zero=some z)(hc:z.cells=zs.toArray)(hs:ti.size=zs.length)(hb:ti.bytes<=4096):Slm P t e zs where
 inf:=⟨ti,z,hi,hz,hc,hs,hb⟩
end
section
variable{P:Program}{t:TypeId}{n c m:Nat}{S:List Nat}{w0 w w':World}{L:List Et}{g o b i k off cap:Nat}{ty e:TypeId}{cs cs' vs us xs ys:List Value}{v u:Value}{K:Value->World->Prop}{KP:Value->Prop}{KW:World->Prop}{rest:Prop}{wi:Bool}
theorem Hp.size(h:Hp S w0 w L):w0.heap.size<=w.heap.size:=h.mo.size
theorem Hp.ne(h:Hp S w0 w L){i j:Nat}{e f:Et}(hi:L[i]?=some e)(hj:L[j]?=some f)(hij:i≠j):∀ k∈e.ks,k ∉ f.ks:=by
 obtain⟨h1,h2⟩:=List.getElem?_eq_some_iff.1 hi
 obtain⟨h3,h4⟩:=List.getElem?_eq_some_iff.1 hj
 have hp:=List.pairwise_iff_getElem.1 h.nd
 rcases Nat.lt_or_ge i j with hl | hl
 ·subst h2;subst h4;exact hp i j h1 h3 hl
 ·subst h2;subst h4
  intro k hk hc
  exact hp j i h3 h1 (by omega) k hc hk
theorem Hp.rc(h:Hp S w0 w L)(i:Nat)(hi:L[i]?=some (ro e c v n xs))(hv:v=.slice (some ⟨b,0,none⟩) n cap):dj w b 0 xs:=HG (hv ▸ h.get hi)
theorem Uh[Agg P t m](h:Hp S w0 w L)(i:Nat)(hi:L[i]?=some (ro e c v n xs))(hv:v=.slice (some ⟨b,0,none⟩) n cap)(hs:iY xs k vs)(hl:vs.length=m)(hk:K (.agg vs.toArray) w):Ld P t (pr b (0+k)) w K:=T8 ((h.rc i hi hv).seg hs) hl hk
theorem US[Agg P t m](h:Hp S w0 w L)(i:Nat)(hi:L[i]?=some (ro e c v n xs))(hv:v=.slice (some ⟨b,0,none⟩) n cap)(hs:iY xs k vs)(hl:vs.length=m)(hk:KP (.agg vs.toArray)):Dv P false (Instr.loadAt t (pr b (0+k))) w KP:=Ua ((h.rc i hi hv).seg hs) hl hk
theorem UT[Agg P t m](h:Hp S w0 w L)(i:Nat)(hi:L[i]?=some (ro e c v n xs))(hv:v=.slice (some ⟨b,0,none⟩) n cap)(hs:iY xs k vs)(hl:vs.length=m)(hk:rest):Ke P (Instr.loadAt t (pr b (0+k))) (.agg vs.toArray) w rest:=Uc ((h.rc i hi hv).seg hs) hl hk
theorem SU[One P t](h:Hp S w0 w L)(i:Nat)(hi:L[i]?=some (ro e c v n xs))(hv:v=.slice (some ⟨b,0,none⟩) n cap)(hs:iY xs k vs)(hl:vs[0]?=some u)(hk:K u w):Ld P t (pr b (0+k)) w K:=T9 ((h.rc i hi hv).seg hs) hl hk
theorem UU[One P t](h:Hp S w0 w L)(i:Nat)(hi:L[i]?=some (ro e c v n xs))(hv:v=.slice (some ⟨b,0,none⟩) n cap)(hs:iY xs k vs)(hl:vs[0]?=some u)(hk:KP u):Dv P false (Instr.loadAt t (pr b (0+k))) w KP:=Ub ((h.rc i hi hv).seg hs) hl hk
theorem UV[One P t](h:Hp S w0 w L)(i:Nat)(hi:L[i]?=some (ro e c v n xs))(hv:v=.slice (some ⟨b,0,none⟩) n cap)(hs:iY xs k vs)(hl:vs[0]?=some u)(hk:rest):Ke P (Instr.loadAt t (pr b (0+k))) u w rest:=Ud ((h.rc i hi hv).seg hs) hl hk
theorem UW[Agg P t m](h:Hp S w0 w L)(i:Nat)(hi:L[i]?=some (ro e c v n xs))(hv:v=.slice (some ⟨b,0,none⟩) n cap)(hs:iY xs k vs)(hl:EY off m vs=some us)(hk:KP (.agg us.toArray)):Dv P false (Instr.loadAt t (pr b (0+k+off))) w KP:=by
 rw[Nat.add_assoc];exact US h i hi hv (nY hs hl).1 (nY hs hl).2 hk
theorem UX[Agg P t m](h:Hp S w0 w L)(i:Nat)(hi:L[i]?=some (ro e c v n xs))(hv:v=.slice (some ⟨b,0,none⟩) n cap)(hs:iY xs k vs)(hl:EY off m vs=some us)(hk:rest):Ke P (Instr.loadAt t (pr b (0+k+off))) (.agg us.toArray) w rest:=by
 rw[Nat.add_assoc];exact UT h i hi hv (nY hs hl).1 (nY hs hl).2 hk
theorem SV[One P t](h:Hp S w0 w L)(i:Nat)(hi:L[i]?=some (ro e c v n xs))(hv:v=.slice (some ⟨b,0,none⟩) n cap)(hs:iY xs k vs)(hl:vs[off]?=some u)(hk:K u w):Ld P t (pr b (0+k+off)) w K:=by
 rw[Nat.add_assoc];exact SU h i hi hv (wE hs hl) rfl hk
theorem E0[One P t](h:Hp S w0 w L)(i:Nat)(hi:L[i]?=some (ro e c v n xs))(hv:v=.slice (some ⟨b,0,none⟩) n cap)(hs:iY xs k vs)(hl:vs[off]?=some u)(hk:KP u):Dv P false (Instr.loadAt t (pr b (0+k+off))) w KP:=by
 rw[Nat.add_assoc];exact UU h i hi hv (wE hs hl) rfl hk
theorem UY[One P t](h:Hp S w0 w L)(i:Nat)(hi:L[i]?=some (ro e c v n xs))(hv:v=.slice (some ⟨b,0,none⟩) n cap)(hs:iY xs k vs)(hl:vs[off]?=some u)(hk:rest):Ke P (Instr.loadAt t (pr b (0+k+off))) u w rest:=by
 rw[Nat.add_assoc];exact UV h i hi hv (wE hs hl) rfl hk
theorem It[hs:Slt P t e c](h:Hp S w0 w L)(hk:∀ v w1,Hp S w0 w1 (ro e c v 0 []::L)->K v w1):Bs P t 0 [] w K:=by
 refine oH (P:=P) (v:=.slice (some ⟨w.heap.size,0,none⟩) 0 0) (w':=w.alloc (.cells #[] e)) ?_ (hk _ _ (h.row ((bK.refl w).al _) ⟨by simp,.inr ⟨w.heap.size,0,#[],rfl,Nat.le_refl _,heap_alloc_new w _,Nat.le_refl _,Nat.zero_le _,by simp,by simp⟩⟩))
 simp[Instr.buildSlice,run_underlying hs.un,hs.sz,newRow,Instr.fill]
 congr 2
 exact Array.eq_empty_of_size_eq_zero (by simp)
def Fo(c:Nat)(v:Value)(n:Nat)(xs:List Value)(v':Value)(m:Nat)(ys:List Value):Prop:=v'.ownBlock=v.ownBlock/\∀ W,dJ W c v n xs->dJ W c v' m ys
end
end Go.Eng
namespace Go.Eng
open Go Go.RowKit Go.Proofs
section
variable{P:Program}{w:World}{K:Value->World->Prop}{KP:Value->Prop}{t:TypeId}{c wi:Bool}{j a b:Nat}
end
end Go.Eng
namespace Go.Eng
open Go Go.RowKit Go.Proofs
set_option maxRecDepth 100000
section
variable{P:Program}{t:TypeId}{n c m:Nat}{S:List Nat}{w0 w w':World}{L:List Et}{g o b i k off cap:Nat}{ty e:TypeId}{cs cs' vs us xs ys:List Value}{v u:Value}{K:Value->World->Prop}{KP:Value->Prop}{KW:World->Prop}{rest:Prop}{wi:Bool}
end
section
variable{P:Program}{t T:TypeId}{n c m:Nat}{S:List Nat}{w0 w W W':World}{L L':List Et}{g o b i k B D:Nat}{ty e:TypeId}{cs cs' vs xs ys zs:List Value}{v u:Value}{K:Value->World->Prop}{KW:World->Prop}
def BK(L:List Et):List Nat->Option (List Et)
 | []=>some []
 | i::is=>match L[i]?,BK L is with
  | some e,some r=>some (e::r)
  | _,_=>none
theorem tn:∀ {is:List Nat} {L':List Et},BK L is=some L'->∀ e∈L',∃ i∈is,L[i]?=some e
 | [],L',h,e,he=>by cases h;simp at he
 | i::is,L',h,e,he=>by
  unfold BK at h
  split at h
  ·next x r h1 h2=>
   cases h
   rcases List.mem_cons.1 he with rfl | he
   ·exact⟨i,by simp,h1⟩
   ·obtain⟨j,hj,h3⟩:=tn h2 e he
    exact⟨j,by simp[hj],h3⟩
  ·cases h
theorem D0(h:Hp S w0 w L):∀ {is:List Nat} {L':List Et},is.Nodup->BK L is=some L'->L'.Pairwise fun a b=>∀ k∈a.ks,k ∉ b.ks
 | [],L',_,h=>by cases h;exact .nil
 | i::is,L',hd,hp=>by
  unfold BK at hp
  split at hp
  ·next x r h1 h2=>
   cases hp
   have hd':=List.nodup_cons.1 hd
   refine .cons (fun y hy=>?_) (D0 h hd'.2 h2)
   obtain⟨j,hj,h3⟩:=tn h2 y hy
   exact h.ne h1 h3 (fun e=>hd'.1 (e ▸ hj))
  ·cases hp
theorem Hp.pick(h:Hp S w0 w L)(is:List Nat)(hd:is.Nodup)(he:BK L is=some L'):Hp S w0 w L' where
 mo:=h.mo
 ok:=fun e hm=>by
  obtain⟨i,_,h1⟩:=tn he e hm
  exact h.at h1
 ks:=fun e hm=>by
  obtain⟨i,_,h1⟩:=tn he e hm
  exact h.ks e (List.mem_of_getElem? h1)
 nd:=D0 h hd he
theorem Hp.bk(h:Hp [] w0 W L)(hB:∀ k∈L.flatMap Et.ks,k < B)(hw:w0.heap.size<=B)(b:Bk B W W'):Hp [] w0 W' L where
 mo:=⟨b.os.trans h.mo.os,b.tape.trans h.mo.tape,b.output.trans h.mo.output,Nat.le_trans h.mo.size b.size,fun k hk _=>by
  rcases b.block k (Nat.lt_of_lt_of_le hk h.mo.size) with h1 | ⟨h1,_⟩
  ·exact h1.trans (h.mo.block k hk (by simp))
  ·omega⟩
 ok:=fun e he=>(h.ok e he).mv b.size fun k hk hc=>by
  rcases b.block k hk with h1 | ⟨h1,_⟩
  ·exact h1
  ·rcases hc with hc | ⟨hc,_⟩
   ·have:=hB k (List.mem_flatMap.2 ⟨e,he,hc⟩);omega
   ·omega
 ks:=fun e he k hk=>⟨Nat.lt_of_lt_of_le (h.ks e he k hk).1 b.size,(h.ks e he k hk).2⟩
 nd:=h.nd
theorem Hp.ksz(h:Hp S w0 w L):∀ k∈L.flatMap Et.ks,k < w.heap.size:=fun k hk=>by
 obtain⟨e,he,hc⟩:=List.mem_flatMap.1 hk
 exact(h.ks e he k hc).1
def zE:Option Obj->Bool
 | some (.loop _)=>true
 | some (.deferred _)=>true
 | _=>false
abbrev Ui(D:Nat):Et:=⟨[D],fun w=>w.heap[D]?=some (.deferred (some []))⟩
def Se(B:Nat)(W:World):Et:=⟨(List.range W.heap.size).filter fun k=>decide (B<=k) && zE W.heap[k]?,fun w=>Kf B W w⟩
theorem Cq:k∈(Se B W).ks↔k < W.heap.size/\B<=k/\zE W.heap[k]?=true:=by
 simp[Se]
theorem Hp.df(h:Hp [] w0 w L)(hD:w.heap[D]?=some (.deferred (some [])))(h0:w0.heap.size<=D)(hn:D ∉ L.flatMap Et.ks):Hp [] w0 w (Ui D::L):=
 h.nw (fun w' _ hb=>(hb D (Array.getElem?_eq_some_iff.1 hD).1 (.inl (by simp))).trans hD) (fun k hk=>by
  simp at hk;subst hk;exact⟨(Array.getElem?_eq_some_iff.1 hD).1,.inl h0⟩) fun x hx k hk hc=>by
  simp at hk;subst hk;exact hn (List.mem_flatMap.2 ⟨x,hx,hc⟩)
theorem Hp.fr(h:Hp [] w0 W L)(B:Nat)(hw:w0.heap.size<=B)(hc:∀ k∈L.flatMap Et.ks,k < B\/zE W.heap[k]?=false):Hp [] w0 W (Se B W::L):=
 h.nw (fun w' hs hb=>⟨hs,fun k h1 h2 h3=>hb k h2 (.inl (Cq.2 ⟨h2,h1,by
  rcases h3 with ⟨r,h3⟩ | ⟨r,h3⟩ <;> rw[h3] <;> rfl⟩))⟩) (fun k hk=>by
  have:=Cq.1 hk
  exact⟨this.1,.inl (by omega)⟩) fun x hx k hk hm=>by
  have h1:=Cq.1 hk
  rcases hc k (List.mem_flatMap.2 ⟨x,hx,hm⟩) with h2 | h2
  ·omega
  ·rw[h1.2.2]at h2;cases h2
theorem cM.nrec(h:cM W b ty cs):zE W.heap[b]?=false:=by
 unfold cM at h;rw[h];rfl
theorem P6(h:Hp [] w0 w L)(i:Nat)(hi:L[i]?=some (Ui D))(hk:∀ w1,Hp [] w0 w1 (L.set i ⟨[],fun _=>True⟩)->KW w1):Tk P D w KW:=by
 refine Tk.mk (h.get hi) fun w' b hn=>hk w' (h.up hi ⟨b.os,b.tape,b.output,b.size,fun k _ hs=>hn k (by simpa using hs)⟩ (fun _ _ _=>trivial) (fun k hk=>by simp at hk))
def Et.Simple(e:Et):Prop:=∀(B:Nat) (S:List Nat) (w:World),e.Q w->e.At B S w
theorem dM{e:TypeId}{c n:Nat}{v:Value}{xs:List Value}:(ro e c v n xs).Simple:=fun _ _ _ h=>BE h
theorem xu{g:Nat}{ty:TypeId}{cs:List Value}:(bx g ty cs).Simple:=fun _ _ _ h=>GQ h
theorem Hp.cat1(h:Hp S w0 w L){a:Et}(h':Hp [] w W [a])(sa:a.Simple):Hp S w0 W (a::L):=
 h.xn h'.ext (sa _ _ _ (h'.get (i:=0) rfl)) fun k hk=>by
  have:=h'.ks a (by simp) k hk
  exact⟨by simpa using this.2,this.1⟩
theorem Hp.cat2(h:Hp S w0 w L){a b:Et}(h':Hp [] w W [a,b])(sa:a.Simple)(sb:b.Simple):Hp S w0 W (a::b::L):=by
 have h1:=h.xn h'.ext (sb _ _ _ (h'.get (i:=1) rfl)) fun k hk=>by
  have:=h'.ks b (by simp) k hk
  exact⟨by simpa using this.2,this.1⟩
 refine h1.nw (sa _ _ _ (h'.get (i:=0) rfl)) (fun k hk=>?_) fun x hx k hk hc=>?_
 ·have:=h'.ks a (by simp) k hk
  have h2:w.heap.size<=k:=by simpa using this.2
  exact⟨this.1,.inl (Nat.le_trans h.mo.size h2)⟩
 ·have:=h'.ks a (by simp) k hk
  have h2:w.heap.size<=k:=by simpa using this.2
  rcases List.mem_cons.1 hx with rfl | hx
  ·exact h'.ne (i:=0) (j:=1) rfl rfl (by decide) k hk hc
  ·have:=(h.ks x hx k hc).1;omega
theorem LX[Arr P t n c]{kk:IntKind}{z:Int}(h0:0<=z)(hj:z.toNat < n)(hk:K (pr g (o+z.toNat * c)) w):Ia P t (pr g o) (.int kk z) w K:=by
 have e:z=((z.toNat:Nat):Int):=by omega
 rw[e]
 exact UN hj (by simpa using hk)
theorem Nj{wi:Bool}{KP:Value->Prop}[Arr P t n c]{kk:IntKind}{z:Int}(h0:0<=z)(hj:z.toNat < n)(hk:KP (pr g (o+z.toNat * c))):Dv P wi (Instr.indexAt t (pr g o) (.int kk z)) w KP:=by
 have e:z=((z.toNat:Nat):Int):=by omega
 rw[e]
 exact UO hj (by simpa using hk)
section
variable{x y:Int}{b:Bool}
theorem Cr(h0: -9223372036854775808<=x)(h1:x<=9223372036854775807)(hy:0 < y): -9223372036854775808<=x.tdiv y/\x.tdiv y<=9223372036854775807:=by
 rcases Int.le_total 0 x with h | h
 ·rw[Int.tdiv_eq_ediv_of_nonneg h]
  have b0:0<=x / y:=Int.ediv_nonneg h (by omega)
  have b1:x / y<=x:=Int.ediv_le_self y h
  omega
 ·have e:x.tdiv y= -((-x) / y):=by
   rw[<-Int.tdiv_eq_ediv_of_nonneg (by omega:0<= -x),Int.neg_tdiv,Int.neg_neg]
  rw[e]
  have b0:0<=(-x) / y:=Int.ediv_nonneg (by omega) (by omega)
  have b1:(-x) / y<= -x:=Int.ediv_le_self y (by omega)
  omega
theorem Jz(h0: -9223372036854775808<=x)(h1:x<=9223372036854775807)(hy:0 < y)(hk:K (.int .i64 (x.tdiv y)) w):Bn P .quo t b (.int .i64 x) (.int .i64 y) w K:=by
 have bd:=Cr h0 h1 hy
 obtain⟨q,hq⟩:∃ q,q=x.tdiv y:=⟨_,rfl⟩
 rw[<-hq]at bd hk
 (repeat (first|simp -dsimp[go_sem,<-hq]|simp -dsimp (disch:=omega)only[gL,gI]));exact hk
theorem zF{wi:Bool}{KP:Value->Prop}(h0: -9223372036854775808<=x)(h1:x<=9223372036854775807)(hy:0 < y)(hk:KP (.int .i64 (x.tdiv y))):Dv P wi (bn .quo t b (.int .i64 x) (.int .i64 y)) w KP:=by
 have bd:=Cr h0 h1 hy
 obtain⟨q,hq⟩:∃ q,q=x.tdiv y:=⟨_,rfl⟩
 rw[<-hq]at bd hk
 cases wi <;> (repeat (first|simp -dsimp[go_sem,<-hq]|simp -dsimp (disch:=omega)only[gL,gI])) <;> exact hk
end
end
class StrT (P:Program) (t:TypeId):Prop where
 un:P.underlying t=some .string
section
variable{P:Program}{t T u a' b':TypeId}{n c m:Nat}{S:List Nat}{w0 w w':World}{L:List Et}{e:TypeId}{cs vs xs zs:List Value}{K:Value->World->Prop}{KP:Value->Prop}{wi:Bool}{s:List UInt8}{x y:Int}
theorem D2[hs:StrT P u](w:World):(bV .len #[u] T #[bh s]).run P w=.ok (.int .i64 s.length) w:=by
 have e:(ByteArray.mk s.toArray).size=s.length:=rfl
 simp[bV,Builtin.len_,run_underlying hs.un,goInt,e]
theorem GU[StrT P u](hk:KP (.int .i64 s.length)):Dv P wi (bV .len #[u] T #[bh s]) w KP:=by
 cases wi
 ·exact⟨_,D2 w,hk⟩
 ·exact⟨_,fun w'=>D2 w',hk⟩
theorem QL(hk:K (.int .i64 (min x y)) w):Bt P .min #[a',b'] T #[.int .i64 x,.int .i64 y] w K:=by
 have e:(if y < x then y else x)=min x y:=by split <;> omega
 (repeat (first|simp -dsimp[go_sem,e]|simp -dsimp (disch:=omega)only[gL,gI]));exact hk
theorem Fp(hk:KP (.int .i64 (min x y))):Dv P wi (bV .min #[a',b'] T #[.int .i64 x,.int .i64 y]) w KP:=by
 have e:(if y < x then y else x)=min x y:=by split <;> omega
 cases wi <;> (repeat (first|simp -dsimp[go_sem,e]|simp -dsimp (disch:=omega)only[gL,gI])) <;> exact hk
theorem JA{k:Nat}:(ByteArray.mk s.toArray).extract 0 k=⟨(s.take k).toArray⟩:=by
 apply ByteArray.ext
 apply Array.toList_inj.1
 rw[ByteArray.data_extract]
 simp
theorem Nk[hs:StrT P u]{k:IntKind}(h0:0<=x)(h1:x<=s.length)(hk:KP (bh (s.take x.toNat))):Dv P wi (Instr.sliceAt u (bh s) none (some (.int k x)) none) w KP:=by
 have e:(ByteArray.mk s.toArray).size=s.length:=rfl
 have h0':¬x < 0:=by omega
 have h1':x.toNat<=s.length:=by omega
 have:=hs.un
 cases wi <;> (repeat (first|simp -dsimp[go_sem,this,e,h0',h1',JA (s:=s)]|simp -dsimp (disch:=omega)only[gL,gI])) <;> exact hk
section
variable{w1:World}{g:Nat}{ty:TypeId}
theorem mE.lf{A:(Value->World->Prop)->Prop}{B:Value->World->Prop}(u:Value)(h:Hp S w0 w L)(hA:∀ K:Value->World->Prop,(∀ w1,Hp S w0 w1 L->K u w1)->A K)(hB:∀ w1,Hp S w0 w1 L->B u w1):mE A B:=
 mE.mk fun K hK=>hA K fun w1 h1=>hK u w1 (hB w1 h1)
theorem mE.lfb{A:(Value->World->Prop)->Prop}{B:Value->World->Prop}(ty:TypeId)(cs:List Value)(h:Hp S w0 w L)(hA:∀ K:Value->World->Prop,(∀ g w1,Hp S w0 w1 (bx g ty cs::L)->K (pr g 0) w1)->A K)(hB:∀ g w1,Hp S w0 w1 (bx g ty cs::L)->B (pr g 0) w1):mE A B:=
 mE.mk fun K hK=>hA K fun g w1 h1=>hK _ w1 (hB g w1 h1)
theorem vt.lf{A:(Value->Value->World->Prop)->Prop}{B:Value->Value->World->Prop}(u1 u2:Value)(h:Hp S w0 w L)(hA:∀ K:Value->Value->World->Prop,(∀ w1,Hp S w0 w1 L->K u1 u2 w1)->A K)(hB:∀ w1,Hp S w0 w1 L->B u1 u2 w1):vt A B:=
 vt.mk fun K hK=>hA K fun w1 h1=>hK u1 u2 w1 (hB w1 h1)
theorem vt.lfb{A:(Value->Value->World->Prop)->Prop}{B:Value->Value->World->Prop}(ty:TypeId)(cs:List Value)(u:Value)(h:Hp S w0 w L)(hA:∀ K:Value->Value->World->Prop,(∀ g w1,Hp S w0 w1 (bx g ty cs::L)->K (pr g 0) u w1)->A K)(hB:∀ g w1,Hp S w0 w1 (bx g ty cs::L)->B (pr g 0) u w1):vt A B:=
 vt.mk fun K hK=>hA K fun g w1 h1=>hK _ _ w1 (hB g w1 h1)
end
inductive PL:Nat->List Value->List (List Value)->Prop where
 | nil {c:Nat}:PL c [] []
 | cons {c:Nat} {v:Value} {x:List Value} {l:List Value} {m:List (List Value)} (h:v.cells=x.toArray) (hl:x.length=c) (r:PL c l m):PL c (v::l) (x::m)
theorem PL.flat:∀ {vs:List Value} {m:List (List Value)},PL c vs m->vs.flatMap (fun v=>v.cells.toList)=m.flatten/\(∀ v∈vs,v.cells=v.cells.toList.toArray/\v.cells.toList.length=c)
 | _,_,.nil=>⟨rfl,fun v hv=>by simp at hv⟩
 | _,_,.cons (v:=v) (x:=x) h hl r=>by
  obtain⟨h1,h2⟩:=r.flat
  refine⟨by rw[List.flatMap_cons,h1,h];rfl,fun y hy=>?_⟩
  rcases List.mem_cons.1 hy with rfl | hy
  ·exact⟨by simp,by rw[h];simpa using hl⟩
  ·exact h2 y hy
theorem AH{zs:List Value}[hs:Slt P t e c][hm:Slm P t e zs]{m:List (List Value)}(h:Hp S w0 w L)(hp:PL c vs m)(hlen:vs.length=n)(hcz:c=zs.length)(h0:0 < zs.length)(hn:n * c<=16777216)(hpos:0 < n)
 (hk:∀ v w1,Hp S w0 w1 (ro e c v n m.flatten::L)->K v w1):Bs P t n (lit 0 vs) w K:=by
 subst hlen
 obtain⟨h1,h2⟩:=hp.flat
 exact Ug (fun v=>v.cells.toList) hcz h0 h vs h2 hn hpos fun v w1 _ h'=>hk v w1 (h1 ▸ h')
theorem kW{a b c:Value}{B:Value->Value->Value->Prop}(h:B a b c):gR (.tuple #[a,b,c]) 0 fun t1=>gR (.tuple #[a,b,c]) 1 fun t2=>gR (.tuple #[a,b,c]) 2 fun t3=>B t1 t2 t3:=h
section
variable{v:Value}{k:IntKind}{z:Int}{i:Nat}{ty:TypeId}{KP:Value->Prop}
theorem JB(h0:0<=z):z=((z.toNat:Nat):Int):=by omega
theorem SW[Slt P t e c](h:Hp [] w0 w L)(hx:dJ w0 c v n xs)(h0:0<=z)(hj:z.toNat < n)(hk:∀ b o cap,v=.slice (some ⟨b,o,none⟩) n cap->dj w0 b o xs->K (pr b (o+z.toNat * c)) w):Ia P t v (.int k z) w K:=by
 rw[JB h0];exact lU h hx hj (by simpa using hk)
theorem SX[Slt P t e c](h:Hp S w0 w L)(i:Nat)(hL:L[i]?=some (ro ty c v n xs))(h0:0<=z)(hj:z.toNat < n)(hk:∀ g cap,v=.slice (some ⟨g,0,none⟩) n cap->K (pr g (0+z.toNat * c)) w):Ia P t v (.int k z) w K:=by
 rw[JB h0];exact SO h i hL hj (by simpa using hk)
theorem rM[Slt P t e c](h:Hp [] w0 w L)(hx:dJ w0 c v n xs)(h0:0<=z)(hj:z.toNat < n)(hk:∀ b o cap,v=.slice (some ⟨b,o,none⟩) n cap->dj w0 b o xs->KP (pr b (o+z.toNat * c))):Dv P wi (Instr.indexAt t v (.int k z)) w KP:=by
 rw[JB h0];exact nT h hx hj (by simpa using hk)
end
section
variable{v:Value}{lo hi:Nat}{k k':IntKind}{z z':Int}
theorem LY[hs:Slt P t e c](h:dJ w c v n xs)(h2:hi<=n):∃ v',(∀ W,(Instr.sliceAt t v none (some (.int k' (hi:Int))) none).run P W=.ok v' W)/\Fo c v n xs v' hi (xs.take (hi * c)):=by
 obtain⟨a,l,m,hv,rfl,hm⟩:=h.key
 refine⟨.slice (if m=0 then a else a.map (·.add (0 * c))) (hi - 0) (m - 0),fun W=>?_,⟨by rw[hv];exact zC (l:=l),fun W hW=>by simpa using hW.part (Nat.zero_le hi) h2 hv⟩⟩
 subst hv
 have a2:hi<=m:=by omega
 simp[Instr.sliceAt,Instr.slice,Instr.sliceBounds,Instr.sliceBound,run_underlying hs.un,hs.sz,asIntOf,a2]
theorem SY[Slt P t e c](h:dJ w c v n xs)(h2:hi<=n)(hk:∀ v',Fo c v n xs v' hi (xs.take (hi * c))->K v' w):Sc P t v none (some (.int k' (hi:Int))) none w K:=by
 obtain⟨v',h3,h4⟩:=LY (P:=P) (t:=t) (k':=k') h h2
 exact oH (h3 w) (hk v' h4)
theorem LZ[hs:Slt P t e c](h:dJ w c v n xs)(h1:lo<=n):∃ v',(∀ W,(Instr.sliceAt t v (some (.int k (lo:Int))) none none).run P W=.ok v' W)/\Fo c v n xs v' (n - lo) (xs.drop (lo * c)):=by
 obtain⟨a,l,m,hv,rfl,hm⟩:=h.key
 have hl:∀ {W},dJ W c v l xs->(xs.drop (lo * c)).take ((l - lo) * c)=xs.drop (lo * c):=fun hW=>List.take_of_length_le (by rw[List.length_drop,hW.1,Nat.sub_mul];omega)
 refine⟨.slice (if m=lo then a else a.map (·.add (lo * c))) (l - lo) (m - lo),fun W=>?_,⟨by rw[hv];exact zC (l:=l),fun W hW=>hl hW ▸ hW.part h1 (Nat.le_refl l) hv⟩⟩
 subst hv
 have a1:lo<=l:=h1
 simp[Instr.sliceAt,Instr.slice,Instr.sliceBounds,Instr.sliceBound,run_underlying hs.un,hs.sz,asIntOf,a1]
theorem SZ[Slt P t e c](h:dJ w c v n xs)(h1:lo<=n)(hk:∀ v',Fo c v n xs v' (n - lo) (xs.drop (lo * c))->KP v'):Dv P wi (Instr.sliceAt t v (some (.int k (lo:Int))) none none) w KP:=by
 obtain⟨v',h3,h4⟩:=LZ (P:=P) (t:=t) (k:=k) h h1
 cases wi
 ·exact⟨_,h3 w,hk v' h4⟩
 ·exact⟨_,h3,hk v' h4⟩
theorem S0[Slt P t e c](h:dJ w c v n xs)(h0:0<=z)(h2:z.toNat<=n)(hk:∀ v',Fo c v n xs v' z.toNat (xs.take (z.toNat * c))->K v' w):Sc P t v none (some (.int k' z)) none w K:=by
 have e:z=((z.toNat:Nat):Int):=by omega
 rw[e]
 exact SY h h2 (by simpa using hk)
end
end
end Go.Eng
namespace Go.Eng
open Go Go.RowKit Go.Proofs
set_option maxRecDepth 100000
section
variable{P:Program}{S:List Nat}{w0 w:World}{L L':List Et}{a b c:Et}{v:Value}{args first cap:Array Value}{K:Value->World->Prop}{pan:List PanicEntry->World->Prop}{f:FuncId}
theorem Cs(h:Hp S w0 w L)(hn:Enters P f)(hc:Calls P f (first++args++cap) w (bQ fun r w'=>bK w w'/\r=v))(hk:∀ w1,Hp S w0 w1 L->K v w1):Cw P (.func (.func f) first cap) args w pan K:=
 Ek hn hc fun r w' ⟨x,e⟩=>by subst e;exact hk w' (h.x x)
section
variable{t e ty:TypeId}{n c n' c' g o:Nat}{xs cs:List Value}{KW:World->Prop}{u:Value}
theorem Ct(h:dJ w c v n xs):v.cells=#[v]/\v.oneCell'=true:=by
 obtain⟨a,l,m,rfl,_⟩:=h.key
 exact⟨rfl,rfl⟩
theorem HH[hO:One P t](h:Hp S w0 w L)(i:Nat)(hi:L[i]?=some (bx g ty cs))(hs:dJ w c v n xs){cs':List Value}(hw:wr o [v] cs=some cs')
 (hk:∀ w1,Hp S w0 w1 (L.set i (bx g ty cs'))->KW w1):cL P t (pr g o) v w KW:=tl h i hi (Ct hs).1 (Ct hs).2 hw hk
theorem OE(h:Hp S w0 w L)(hs:dJ w c v n xs)(hk:∀ g w1,Hp S w0 w1 (bx g t [v]::L)->K (pr g 0) w1):Bx P t v w K:=Ue h (Ct hs).1 hk
end
class Ars (P:Program) (t:TypeId) (n c:outParam Nat):Prop where
 sa:∀ w g o,(Instr.sliceAt t (pr g o) none none none).run P w=.ok (.slice (some ⟨g,o,none⟩) n n) w
 h0:0 < n
theorem rN{t e:TypeId}{n c:Nat}{ti:TypeInfo}(hu:P.underlying t=some (.array n e))(hi:P.info? e=some ti)(h0:0 < n)(hs:ti.size=c):Ars P t n c where
 sa W g o:=by
  have h1:(n=0)=False:=by simp;omega
  simp[Instr.sliceAt,Instr.sliceBounds,run_underlying hu,Instr.sureAddr,Go.sizeOf,typeInfo,hi,h1]
  rfl
 h0:=h0
section
variable{t ty:TypeId}{n c g o:Nat}{cs:List Value}{KP:Value->Prop}
end
theorem BL{s:Sem Value}{rest:Prop}(h:Dv P false s w (fun u=>u=v))(hk:rest):Ke P s v w rest:=by
 obtain⟨u,h1,rfl⟩:=h
 exact⟨h1,hk⟩
theorem qZ{e:TypeId}{c n:Nat}{xs:List Value}(i:Nat)(h:Hp S w0 w L)(hi:L[i]?=some (ro e c v n xs)):dJ w c v n xs:=h.sl hi
theorem qY{e:TypeId}{c n:Nat}{xs:List Value}(i:Nat)(h:Hp S w0 w L)(hi:L[i]?=some (ro e c v n xs)):v.cells=#[v]:=by
 obtain⟨a,l,m,rfl,_⟩:=(h.sl hi).key
 rfl
theorem UZ{e:TypeId}{c n:Nat}{xs:List Value}{T:Value->Value}(h:Hp S w0 w L)(hn:Enters P f)(hc:Calls P f args w (bQ fun r w'=>∃ v,r=T v/\Hp [] w w' [ro e c v n xs]))(hk:∀ v w1,Hp S w0 w1 (ro e c v n xs::L)->K (T v) w1):Cl P f args w pan K:=
 cu hn hc fun r w' ⟨v,e,h'⟩=>by subst e;exact hk v w' (h.cat1 h' dM)
theorem QM{k k':IntKind}{ats:Array TypeId}{T:TypeId}{x y:Int}(hk:K (.int k (max x y)) w):Bt P .max ats T #[.int k x,.int k' y] w K:=oH (Lib.run_max_ints w ats T k k' x y) hk
theorem Cu{wi:Bool}{KP:Value->Prop}{k k':IntKind}{ats:Array TypeId}{T:TypeId}{x y:Int}(hk:KP (.int k (max x y))):Dv P wi (bV .max ats T #[.int k x,.int k' y]) w KP:=by
 have e:(if y > x then y else x)=max x y:=by split <;> omega
 cases wi <;> (repeat (first|simp -dsimp[go_sem,e]|simp -dsimp (disch:=omega)only[gL,gI])) <;> exact hk
theorem hH{a:Addr}{K:Value->Prop}(h:K (.pointer (some a))):Dl (.pointer (some a)) K:=h
end
end Go.Eng
namespace Go.Eng
open Go Go.RowKit Go.Proofs
section
variable{P:Program}{w:World}{K:Value->World->Prop}{t s d:TypeId}{c:Bool}{x y:Int}
theorem wu8{x:Int}(h1:0<=x)(h2:x < 256):IntKind.u8.wrap x=x:=by
 simp[IntKind.wrap,IntKind.bits,IntKind.signed];omega
end
end Go.Eng
namespace Go.Eng
open Go Go.RowKit Go.Proofs
set_option maxRecDepth 100000
section
variable{P:Program}{vs:Array Value}{i:Nat}{x:Value}{w:World}{K:Value->World->Prop}{KP:Value->Prop}
theorem JC{a b:Value}(h:KP a):gR (.tuple #[a,b]) 0 KP:=h
theorem JD{a b:Value}(h:KP b):gR (.tuple #[a,b]) 1 KP:=h
end
end Go.Eng
namespace Go.Eng
open Go Go.RowKit Go.Proofs
theorem Hp.bk2{w0 W W':World}{L:List Et}{B:Nat}(h:Hp [] w0 W L)(hB:∀ k∈L.flatMap Et.ks,k < B\/zE W.heap[k]?=false)(hw:w0.heap.size<=B)(b:Bk B W W'):Hp [] w0 W' L where
 mo:=⟨b.os.trans h.mo.os,b.tape.trans h.mo.tape,b.output.trans h.mo.output,Nat.le_trans h.mo.size b.size,fun k hk _=>by
  rcases b.block k (Nat.lt_of_lt_of_le hk h.mo.size) with h1 | ⟨h1,_⟩
  ·exact h1.trans (h.mo.block k hk (by simp))
  ·omega⟩
 ok:=fun e he=>(h.ok e he).mv b.size fun k hk hc=>by
  rcases b.block k hk with h1 | ⟨h1,r,r',h2,h3⟩
  ·exact h1
  ·rcases hc with hc | ⟨hc,_⟩
   ·rcases hB k (List.mem_flatMap.2 ⟨e,he,hc⟩) with h4 | h4
    ·omega
    ·rw[h2]at h4;cases h4
   ·omega
 ks:=fun e he k hk=>⟨Nat.lt_of_lt_of_le (h.ks e he k hk).1 b.size,(h.ks e he k hk).2⟩
 nd:=h.nd
end Go.Eng
namespace Go.Eng
open Go Go.RowKit Go.Proofs
theorem jv{w:World}{c n:Nat}{v:Value}{xs a b:List Value}(h:dJ w c v n xs)(ha:(a.all fun x=>x.oneCell')=true)(hb:(b.all fun x=>x.oneCell')=true):((a++v::b).all fun x=>x.oneCell')=true:=by
 rw[List.all_append,List.all_cons,ha,hb,(Ct h).2]
 rfl
end Go.Eng
namespace Go.Eng
open Go Go.RowKit
set_option maxRecDepth 100000
def S1(L:World->Prop)(R:Ending->World->Prop):FrameMode->World->Prop
 | .returning,w=>L w
 | .panicking c,w=>R (.panicked c) w
 | .run,_=>False
def Uj(L:World->Prop)(R:Ending->World->Prop):Ending->FrameMode->World->Prop
 | .returned _,u,w=>S1 L R (settle u) w
 | .panicked c,u,w=>S1 L R (raised u c) w
 | .outgrown,_,w=>R .outgrown w
abbrev U0(P:Program)(n:Nat)(rs:List ResultVar)(s1:Sl)(R:Ending->World->Prop):FrameMode->World->Prop:=S1 (fun w=>wR P n s1 w rs [] fun vs=>R (.returned (Pl vs)) w) R
abbrev Sf(P:Program)(n:Nat)(rs:List ResultVar)(s1:Sl)(R:Ending->World->Prop):Ending->FrameMode->World->Prop:=Uj (fun w=>wR P n s1 w rs [] fun vs=>R (.returned (Pl vs)) w) R
abbrev wF(P:Program)(f:FuncId)(args:Array Value)(u:FrameMode)(w:World)(K:Ending->FrameMode->World->Prop):Prop:=CallsDIn Fence.wide 8 P f args u w K
def OG(P:Program)(n:Nat)(rs:List ResultVar)(s1:Sl)(f:FuncId)(args:Array Value)(R:Ending->World->Prop):Exit->St->World->Prop
 | .normal,_,w=>wF P f args .returning w (Sf P n rs s1 R)
 | .ret,_,w=>wF P f args .returning w (Sf P n rs s1 R)
 | .panic c,_,w=>wF P f args (.panicking c) w (Sf P n rs s1 R)
 | _,_,_=>False
theorem JE{P:Program}{n:Nat}{rs:List ResultVar}{s1:Sl}{f:FuncId}{args:Array Value}{R:Ending->World->Prop}:px (OG P n rs s1 f args R):=fun c st st' w hd h=>h
def zG(n:Nat)(ms:List Nat):List ResultVar->Bool
 | []=>true
 | .tmp t::rs=>!mm t ms && Nat.blt t n && zG n ms rs
 | .cell a _::rs=>!mm a ms && Nat.blt a n && zG n ms rs
theorem wG{P:Program}{n:Nat}{ms:List Nat}{s s':Sl}{w:World}(h:im n ms s s'):∀ {rs:List ResultVar} {acc:List Value} {K:List Value->Prop},zG n ms rs=true->wR P n s w rs acc K->wR P n s' w rs acc K
 | [],acc,K,_,h1=>h1
 | .tmp t::rs,acc,K,hr,h1=>by
  simp only[zG,Bool.and_eq_true,Bool.not_eq_true']at hr
  obtain⟨⟨a,b⟩,c⟩:=hr
  have hb:t < n:=by simpa [Nat.blt_eq] using b
  have e:sl n s' t=sl n s t:=by rw[tI,tI,if_pos hb,if_pos hb,h t hb (fun hm=>by rw[fy.2 hm]at a;cases a)]
  unfold wR at h1 ⊢
  rw[e]
  exact wG h c h1
 | .cell t ty::rs,acc,K,hr,h1=>by
  simp only[zG,Bool.and_eq_true,Bool.not_eq_true']at hr
  obtain⟨⟨a,b⟩,c⟩:=hr
  have hb:t < n:=by simpa [Nat.blt_eq] using b
  have e:sl n s' t=sl n s t:=by rw[tI,tI,if_pos hb,if_pos hb,h t hb (fun hm=>by rw[fy.2 hm]at a;cases a)]
  unfold wR at h1 ⊢
  rw[e]
  obtain⟨x,hx,h2⟩:=h1
  exact⟨x,hx,wG h c h2⟩
def OH(P:Program)(n:Nat)(ops:Array Oper)(s s1:Sl)(d:Deferred):Prop:=
 ∀(w:World) (Q:Exit->Act->World->Prop),Q .normal ⟨iE n s1,[d]⟩ w->wpOpsIn Fence.wide 9 P ops Q (List.range ops.size) ⟨iE n s,[]⟩ w
theorem zH{P:Program}{fn:Func}{s1 s2:Sl}{ms:List Nat}{R:Ending->World->Prop}(hsame:im fn.ntmps ms s1 s2)(hr:zG fn.ntmps ms fn.results.toList=true):
 ∀ {u:FrameMode} {w:World},U0 P fn.ntmps fn.results.toList s1 R u w->LeavesIn Fence.wide 9 P fn (iE fn.ntmps s2) R [] u w
 | .returning,w,h=>uM (R:=fun v=>R (.returned v) w) (wG hsame hr h)
 | .panicking c,w,h=>h
 | .run,w,h=>h.elim
def Df(P:Program)(f:FuncId)(args:Array Value)(u:FrameMode)(w:World)(L:World->Prop)(R:Ending->World->Prop)(_:Tag R:=.mk):Prop:=wF P f args u w (Uj L R)
def JF(n:Nat):List Oper->Sl->Option (Sl×FuncId×List Value×List Value)
 | [⟨some j,.makeFunc (.func f) first caps,_,_,_,none⟩,⟨none,.defer ⟨.value (.tmp j'),args,_⟩,_,_,_,none⟩],s=>match Nat.beq j j' with
  | true=>match Nat.blt j n with
   | true=>some ((j,.func (.func f) (first.toList.map (ev n s)).toArray (caps.toList.map (ev n s)).toArray)::s,f,caps.toList.map (ev n s),first.toList.map (ev n s)++args.toList.map (ev n ((j,.func (.func f) (first.toList.map (ev n s)).toArray (caps.toList.map (ev n s)).toArray)::s)))
   | false=>none
  | false=>none
 | [⟨none,.defer ⟨.value (.func f),args,_⟩,_,_,_,none⟩],s=>some (s,f,[],args.toList.map (ev n s))
 | _,_=>none
def QN(P:Program)(n:Nat)(rs:List ResultVar)(ops:Array Oper)(B:Code)(hB:H)(fd:FuncId)(R:Ending->World->Prop):Exit->St->World->Prop
 | .normal,st,w=>match JF n ops.toList st.s with
  | some (s1,f,cap,dargs)=>match Nat.beq f fd with
   | true=>tK P n false B hB (OG P n rs s1 fd (dargs++cap).toArray R) ⟨s1,[⟨.fn (.func fd) cap.toArray,dargs.toArray⟩]⟩ w
   | false=>False
  | none=>False
 | _,_,_=>False
theorem JG{P:Program}{n:Nat}{rs:List ResultVar}{ops:Array Oper}{B:Code}{hB:H}{fd:FuncId}{R:Ending->World->Prop}:px (QN P n rs ops B hB fd R):=fun c st st' w hd h=>h
theorem S2(n:Nat)(s:Sl)(d:List Deferred)(l:Array Operand):l.map (Act.eval ⟨iE n s,d⟩)=(l.toList.map (ev n s)).toArray:=by
 apply Array.toList_inj.1
 rw[nB]
 simp
theorem QO{P:Program}{n j:Nat}{f:FuncId}{first caps args:Array Operand}{ty ty2:TypeId}{ps ps2:String}{af af2:Array Edge}{at':Array TypeId}{s:Sl}(hj:j < n):
 OH P n #[⟨some j,.makeFunc (.func f) first caps,ty,ps,af,none⟩,⟨none,.defer ⟨.value (.tmp j),args,at'⟩,ty2,ps2,af2,none⟩] s
  ((j,.func (.func f) (first.toList.map (ev n s)).toArray (caps.toList.map (ev n s)).toArray)::s)
  ⟨.fn (.func f) (caps.toList.map (ev n s)).toArray,(first.toList.map (ev n s)++args.toList.map (ev n ((j,.func (.func f) (first.toList.map (ev n s)).toArray (caps.toList.map (ev n s)).toArray)::s))).toArray⟩:=by
 intro w Q hQ
 have hmf:∀(fn:Fn) (first cap:Array Value) (w:World),(Instr.makeFunc fn first cap).run P w=.ok (.func fn first cap) w:=fun _ _ _ _=>rfl
 show wpOpsIn Fence.wide 9 P _ Q [0,1] _ w
 have hput:=CC n s [] (some j) (.func (.func f) (first.toList.map (ev n s)).toArray (caps.toList.map (ev n s)).toArray)
 simp only[wpOpsIn,List.getElem?_toArray,List.getElem?_cons_zero,Region.wanted,if_true,Oper.wpIn,Oper.semAt_none]
 refine⟨fun _ _=>trivial,?_⟩
 have r1:(execOp (Act.eval ⟨iE n s,[]⟩) ⟨some j,.makeFunc (.func f) first caps,ty,ps,af,none⟩).run P w=.ok (.value (.func (.func f) (first.toList.map (ev n s)).toArray (caps.toList.map (ev n s)).toArray)) w:=by
  simp[execOp,hmf,S2]
 rw[show Fence.wide.round=none from rfl,Oper.semAt_none,r1,Oper.uponIn_value,hput]
 simp only[List.getElem?_cons_succ,List.getElem?_cons_zero,Region.wanted,if_true]
 refine⟨fun _ _=>trivial,?_⟩
 have r2:(execOp (Act.eval ⟨iE n (wJ (some j) (.func (.func f) (first.toList.map (ev n s)).toArray (caps.toList.map (ev n s)).toArray) s),[]⟩) ⟨none,.defer ⟨.value (.tmp j),args,at'⟩,ty2,ps2,af2,none⟩).run P w=
  .ok (.defer ⟨.fn (.func f) (caps.toList.map (ev n s)).toArray,(first.toList.map (ev n s)++args.toList.map (ev n ((j,.func (.func f) (first.toList.map (ev n s)).toArray (caps.toList.map (ev n s)).toArray)::s))).toArray⟩) w:=by
  have e:Act.eval ⟨iE n (wJ (some j) (.func (.func f) (first.toList.map (ev n s)).toArray (caps.toList.map (ev n s)).toArray) s),[]⟩ (.tmp j)=.func (.func f) (first.toList.map (ev n s)).toArray (caps.toList.map (ev n s)).toArray:=by
   rw[nB]
   show sl n _ j=_
   rw[tI,if_pos hj]
   exact od _ _ _
  simp only[execOp,resolve,e,S2,Deferred.ofValue]
  simp[wJ]
 rw[Oper.semAt_none,r2,Oper.uponIn_defer]
 exact hQ
theorem QP{P:Program}{n:Nat}{f:FuncId}{args:Array Operand}{ty2:TypeId}{ps2:String}{af2:Array Edge}{at':Array TypeId}{s:Sl}:
 OH P n #[⟨none,.defer ⟨.value (.func f),args,at'⟩,ty2,ps2,af2,none⟩] s s ⟨.fn (.func f) #[],(args.toList.map (ev n s)).toArray⟩:=by
 intro w Q hQ
 show wpOpsIn Fence.wide 9 P _ Q [0] _ w
 simp only[wpOpsIn,List.getElem?_toArray,List.getElem?_cons_zero,Region.wanted,if_true,Oper.wpIn,Oper.semAt_none]
 refine⟨fun _ _=>trivial,?_⟩
 have r2:(execOp (Act.eval ⟨iE n s,[]⟩) ⟨none,.defer ⟨.value (.func f),args,at'⟩,ty2,ps2,af2,none⟩).run P w=.ok (.defer ⟨.fn (.func f) #[],(args.toList.map (ev n s)).toArray⟩) w:=by
  have e:Act.eval ⟨iE n s,[]⟩ (.func f)=.func (.func f) #[] #[]:=rfl
  simp only[execOp,resolve,e,S2,Deferred.ofValue]
  simp
 rw[show Fence.wide.round=none from rfl,Oper.semAt_none,r2,Oper.uponIn_defer]
 exact hQ
theorem JH{P:Program}{n:Nat}{l:List Oper}{s s1:Sl}{f:FuncId}{cap dargs:List Value}(h:JF n l s=some (s1,f,cap,dargs)):OH P n l.toArray s s1 ⟨.fn (.func f) cap.toArray,dargs.toArray⟩:=by
 unfold JF at h
 split at h
 ·split at h
  ·next hj=>
   split at h
   ·next hjn=>
    have hj:=Nat.eq_of_beq_eq_true hj
    subst hj
    cases h
    exact QO (by simpa [Nat.blt_eq] using hjn)
   ·cases h
  ·cases h
 ·cases h
  exact QP
 ·cases h
theorem OI{P:Program}{f fd:FuncId}{fn:Func}{A B:Code}{i1:Nat}{ops1:Array Oper}{hA hB:H}{args:List Value}{w:World}{R:Ending->World->Prop}(hf:P.funcs[f]?=some fn)
 (hb:fn.body=some (.seq A (.seq (.region i1 ops1 false) B))) (hn:Nat.ble args.length fn.ntmps=true) (hm:P.follows .mixedOrders=true) (hro:mK B=true)
 (hna:mK A=true) (hr:zG fn.ntmps (jJ B) fn.results.toList=true) (hE:Proofs.Enters P fd)
 (hs:tK P fn.ntmps false A hA (QN P fn.ntmps fn.results.toList ops1 B hB fd R) ⟨Po 0 args,[]⟩ w):Calls P f args.toArray w R:=by
 refine(callsIn_wide (n:=9)).1 (callsIn_of_wp_defers hf hb trivial ?_ rfl)
 rw[<-G9 args fn.ntmps (by simpa using hn)]
 refine wpIn_seq (wpIn_mono (wQ hm A false none (fun _=>rfl) hA _ _ w JG hs) ?_)
 rintro e a w1 ⟨s,d',rfl,_,hdd,hq⟩
 cases e with
 | normal=>
  have hd:d'=[]:=hdd hna
  subst hd
  have hq:(match JF fn.ntmps ops1.toList s with
   | some (s1,f,cap,dargs)=>(match Nat.beq f fd with
    | true=>tK P fn.ntmps false B hB (OG P fn.ntmps fn.results.toList s1 fd (dargs++cap).toArray R) ⟨s1,[⟨.fn (.func fd) cap.toArray,dargs.toArray⟩]⟩ w1
    | false=>False)
   | none=>False):=hq
  cases hdf:JF fn.ntmps ops1.toList s with
  | none=>rw[hdf]at hq;exact hq.elim
  | some x=>
   obtain⟨s1,f',cap,dargs⟩:=x
   rw[hdf]at hq
   simp only at hq
   cases hbq:Nat.beq f' fd with
   | false=>rw[hbq]at hq;exact hq.elim
   | true=>
    rw[hbq]at hq
    have:=Nat.eq_of_beq_eq_true hbq
    subst this
    have hreg:=JH (P:=P) hdf
    refine wpIn_seq (wpIn_region (hreg _ _ ?_))
    refine wpIn_mono (wQ hm B false none (fun _=>rfl) hB _ ⟨s1,[⟨.fn (.func f') cap.toArray,dargs.toArray⟩]⟩ w1 JE hq) ?_
    rintro e a w2 ⟨s2,d2,rfl,hsame,hd2,hq2⟩
    have hd2:=hd2 hro
    subst hd2
    have hinv:(invoke (.fn (.func f') cap.toArray) dargs.toArray).run P w2=.ok (.enter f' (dargs++cap).toArray) w2:=by
     show(callFunc f' (dargs.toArray++cap.toArray)).run P w2=_
     rw[show dargs.toArray++cap.toArray=(dargs++cap).toArray by simp]
     exact hE _ _
    have key:∀ {u:FrameMode},u≠.run->wF P f' (dargs++cap).toArray u w2 (Sf P fn.ntmps fn.results.toList s1 R)->LeavesIn Fence.wide 9 P fn (iE fn.ntmps s2) R [⟨.fn (.func f') cap.toArray,dargs.toArray⟩] u w2:=fun {u} hu h=>by
     refine leavesIn_cons hu (fun h=>by cases h) hinv (fun _ _=>trivial) (CallsDIn.mono h fun e u' w' hk=>?_)
     cases e with
     | returned v=>exact zH hsame hr hk
     | panicked c=>exact zH hsame hr hk
     | outgrown=>exact hk
    cases e with
    | normal=>exact key (by simp) hq2
    | ret=>exact key (by simp) hq2
    | panic c=>exact key (by simp) hq2
    | _=>exact hq2.elim
 | _=>exact hq.elim
end Go.Eng
