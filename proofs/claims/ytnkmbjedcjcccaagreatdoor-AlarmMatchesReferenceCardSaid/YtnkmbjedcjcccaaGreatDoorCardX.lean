/-
  Contracts and plain lemmas. By an AI agent.
-/
import Derived.Test.YtnkmbjedcjcccaaGreatDoorAmT
import Derived.Test.YtnkmbjedcjcccaaGreatDoorRows
import Derived.ProofKit
import Derived.OpenShut
import Derived.LaidMore
import Derived.Lib.LaidTab
import Derived.MakeChecks
import Derived.ChangeSame
import Derived.WideShapes
import Derived.Handed
import Derived.Carry
set_option linter.all false
namespace Go.Proofs.YtnkmbjedcjcccaaGreatDoor
open Go.Proofs.Tryz
open Go Go.Eng Go.Proofs Go.Num Go.RowKit Go.ChangeShapes Go.WideShapes
open Go.Alm (Ft Wt)
set_option maxRecDepth 100000
theorem own:ownKnob prog.godebug=none:=by kernel_rfl
section
variable{H:Type}{enc:TypeId×Value->H}{w:World}{sp:Nat->Bool}{held:Bool}
theorem Gr{α:Type}{P:Nat->α->Prop}:∀ {n:Nat},(∀ i,i < n->∃ x,P i x)->∃ l:List α,l.length=n/\∀ i x,l[i]?=some x->P i x
 | 0,_=>⟨[],rfl,fun i x h=>by simp at h⟩
 | n+1,h=>by
  obtain⟨l,h1,h2⟩:=Gr (P:=P) (n:=n) (fun i hi=>h i (by omega))
  obtain⟨x,hx⟩:=h n (by omega)
  refine⟨l++[x],by simp[h1],fun i y hy=>?_⟩
  by_cases hi:i < l.length
  ·rw[List.getElem?_append_left hi]at hy;exact h2 i y hy
  ·rw[List.getElem?_append_right (by omega)]at hy
   have hi2:i - l.length=0:=by
    rcases Nat.eq_zero_or_pos (i - l.length) with h | h
    ·exact h
    ·rw[List.getElem?_eq_none (by simp only[List.length_singleton];omega)]at hy;cases hy
   rw[hi2]at hy
   simp at hy
   subst hy
   rw[show i=n by omega];exact hx
theorem Dt{α:Type}{f:α->List Value}{c:Nat}(hf:∀ a,(f a).length=c):∀ {l:List α} {k:Nat} {u:Value},(l.flatMap f)[k]?=some u->∃ i r a,l[i]?=some a/\(f a)[r]?=some u/\k=i * c+r/\r < c
 | [],k,u,h=>by simp at h
 | a::l,k,u,h=>by
  rw[List.flatMap_cons]at h
  by_cases hk:k < (f a).length
  ·rw[List.getElem?_append_left hk]at h
   exact⟨0,k,a,rfl,h,by omega,by rw[<-hf a];exact hk⟩
  ·rw[List.getElem?_append_right (by omega),hf]at h
   obtain⟨i,r,b,h1,h2,h3,h4⟩:=Dt hf h
   have:=hf a
   exact⟨i+1,r,b,by simpa using h1,h2,by rw[Nat.add_mul];omega,h4⟩
theorem yz{α:Type}{t e:TypeId}{c b0:Nat}{r:Reach}{v:Value}{d:DataW H}{ps:List MemPlace}(f:α->List Value)(φ:α->Prop)(ht:prog.underlying t=some (.slice e))(hc:prog.cellsOf e=c)(hf:∀ a,(f a).length=c)
 (hel:∀ n cs x,DataW.trod enc prog w 0 sp held n e cs=some x->∃ a,cs=f a/\φ a)
 (hval:Value.okWide prog w r b0 t v) (hd:DataW.Trod enc prog w 0 sp held t v d ps):∃ l:List α,dJ w c v l.length (l.flatMap f)/\(∀ a∈l,φ a)/\l.length<=maxLen:=by
 obtain⟨a,len,cap,rfl⟩:=okWide_slice ht hval
 obtain⟨fuel,hd⟩:=hd
 rcases DataW.trod_slice ht hd with ⟨h1,_⟩ | ⟨a',len',cap',elems,rest,n,_,h1,_,hb,hl,hm,hlen,hels,_⟩
 ·simp[Value.cells]at h1
  obtain⟨rfl,rfl,rfl⟩:=h1
  exact⟨[],⟨by simp,.inl ⟨rfl,rfl⟩⟩,by simp,by simp⟩
 ·simp[Value.cells]at h1
  obtain⟨rfl,rfl,rfl⟩:=h1
  have hs:a'.spot=none:=by
   simp only[Value.okWide,ht,Cell.okWide,Cell.ok]at hval
   exact hval.2.2.2.1
  obtain⟨b,o,s⟩:=a'
  simp only at hs
  subst hs
  have each:∀ i,i < len->∃ x:α,φ x/\∀ r u,(f x)[r]?=some u->w.cell? ⟨b,o+i * c+r,none⟩=some u:=by
   intro i hi
   have h2:=hels i hi
   rw[hc,List.getElem?_eq_getElem (by omega)]at h2
   obtain⟨cs,h3,h4⟩:=Option.bind_eq_some_iff.1 h2
   obtain⟨x,rfl,hx⟩:=hel _ _ _ h4
   refine⟨x,hx,fun r u hu=>?_⟩
   obtain⟨_,h5,h6⟩:=World.cells?_some h3
   have hr:r < c:=by rw[<-hf x];exact(List.getElem?_eq_some_iff.1 hu).1
   have h7:=h6 r hr
   rw[hu,DX,DX]at h7
   exact h7
  obtain⟨l,h2,h3⟩:=Gr (P:=fun i x=>φ x/\∀ r u,(f x)[r]?=some u->w.cell? ⟨b,o+i * c+r,none⟩=some u) each
  refine⟨l,⟨zB hf l,.inr ⟨b,o,cap,by rw[h2],by omega,fun k u hk=>?_⟩⟩,fun x hx=>?_,by omega⟩
  ·obtain⟨i,r,x,h4,h5,rfl,_⟩:=Dt hf hk
   have:=(h3 i x h4).2 r u h5
   rw[<-Nat.add_assoc];exact this
  ·obtain⟨i,hi⟩:=List.getElem?_of_mem hx
   exact(h3 i x hi).1
end
section
variable{H:Type}{enc:TypeId×Value->H}{w w':World}{base:Nat}{sp:Nat->Bool}{held:Bool}
theorem AN{a:Assume}{C:Checked}{os:Os}{f:FuncId}{fn:Func}{s:ChangeSpec}{conds:List PathCond}{apart fresh handsOn again:Bool}{X:World->Array Value->Prop}
 (hX:∀(w w':World) (args:Array Value),w.heap=w'.heap->X w args->X w' args)
 (own:ownKnob C.prog.godebug=none) (started:os.Started) (noInit:C.prog.inits.idxOf? f=none) (hfn:C.prog.funcs[f]?=some fn)
 (witness:∃(w:World) (tape:Tape) (i:Input),w.os=os/\(w.forCall tape i).Shaped C.prog/\i.vars=[]/\Input.okWide C.prog (w.forCall tape i) .any w.heap.size f i/\
  ((s.pre enc C.prog fn conds apart (w.forCall tape i).memory i.args/\X (w.forCall tape i).memory i.args)/\sizedMet enc C.prog fn (OpenSpec.ofChange s) apart (w.forCall tape i).memory i.args)/\a.holds C.prog (lone (Frame.enter C.prog f i.args .normal) [] (w.forCall tape i)))
 (contract:∀(W:World) (base:Nat) (args:Array Value) (ds gs:List (DataW H)) (before:List MemPlace),W.ShapedOpen C.prog->
  (∀(j:Nat) t v,fn.params[j]?=some t->args[j]?=some v->Value.okWide C.prog W .any base t v)->
  DataW.Whole enc C.prog fn.params.toList s.vars apart W args.toList ds gs before->X W args->
  Calls C.prog f args W fun e W'=>∃ v,e=.returned v/\s.post enc C.prog fn apart fresh handsOn again W args v W'):
 ReturnsInHanded a C os f .any (fun w args=>(s.pre enc C.prog fn conds apart w args/\X w args)/\sizedMet enc C.prog fn (OpenSpec.ofChange s) apart w args) (s.post enc C.prog fn apart fresh handsOn again):=by
 refine returnsInHanded_of_calls own started noInit witness ?_
 intro w tape i _ hsh _ hok hpre _
 obtain⟨_,_,_,fn',hfn',_,_,_,_,hval⟩:=hok
 have e:fn'=fn:=Option.some.inj (hfn'.symm.trans hfn)
 subst e
 obtain⟨⟨⟨ds,gs,before,hw,_⟩,hx⟩,_⟩:=hpre
 have hw':=DataW.Whole.of_heap (w':=w.forCall tape i) (by rfl) hw
 refine(contract (w.forCall tape i) w.heap.size i.args ds gs before hsh hval hw' (hX _ _ _ (by rfl) hx)).mono fun e W' ⟨v,he,hp⟩=>?_
 subst he
 exact ChangeSpec.post_blind hp
end
theorem yA{P:Program}{w:World}{n:String}{d:DataW Unit}:∀ {l:List (String×DataW Unit)} {ps:List MemPlace},DataW.LaidVars P w l ps->(n,d)∈l->
 ∃ g t cs fuel p,P.globalNamed n=some g/\(P.globals[g]?).map (·.type)=some t/\w.var? P n=some cs/\DataW.trod (fun _=>()) P w 0 (fun _=>true) false fuel t cs.toList=some (d,p)
 | [],_,_,h=>by cases h
 | (m,e)::r,ps,h,hm=>by
  obtain⟨g,t,cs,fuel,p,q,h1,h2,h3,h4,h5,_⟩:=h
  rcases List.mem_cons.1 hm with he | hm
  ·cases he
   exact⟨g,t,cs,fuel,p,h1,h2,h3,h4⟩
  ·exact yA h5 hm
abbrev jX:List (String×DataW Unit):=Rows.alarmMatchesReferenceRow.laid
theorem E7{P:Program}{w:World}{t:TypeId}{ms:Array (String×TypeId)}{cs:List Value}{fuel:Nat}{nm:String}{d:DataW Unit}{p:List MemPlace}(ht:P.underlying t=some (.interface ms))
 (h:DataW.trod (fun _=>()) P w 0 (fun _=>true) false fuel t cs=some (.iface nm d,p)):∃ u v,cs=[.iface u v]:=by
 cases fuel with
 | zero=>simp[DataW.trod]at h
 | succ fuel=>
  simp only[DataW.trod,ht]at h
  split at h <;> first | exact⟨_,_,rfl⟩ | simp_all
theorem IP{P:Program}{w:World}{l:List (String×DataW Unit)}{n nm:String}{d:DataW Unit}{g:Nat}{t:TypeId}{ms:Array (String×TypeId)}(h:laidMet P l w)(hm:(n,.iface nm d)∈l)
 (hg:P.globalNamed n=some g) (ht:(P.globals[g]?).map (·.type)=some t) (hu:P.underlying t=some (.interface ms)):∃ tp p,w.var? P n=some #[.iface tp p]:=by
 obtain⟨ps,hl,_⟩:=h
 obtain⟨g',t',cs,fuel,p,h1,h2,h3,h4⟩:=yA hl hm
 obtain rfl:=Option.some.inj (hg.symm.trans h1)
 obtain rfl:=Option.some.inj (ht.symm.trans h2)
 obtain⟨u,v,hc⟩:=E7 hu h4
 exact⟨u,v,h3.trans (congrArg some (Array.toList_inj.1 hc))⟩
theorem Du{w:World}(h:laidMetH prog jX w):kA w:=by
 rw[MakeChecks.laidMetH_plain _ _ _ (by kernel_rfl)]at h
 obtain⟨ps,hl,_⟩:=h
 obtain⟨g,t,cs,fuel,p,h1,h2,h3,h4⟩:=yA (n:= "internal/strconv.uint64pow10") (d:=Rows.laid_internal_strconv_uint64pow10) hl (by simp[jX,Rows.alarmMatchesReferenceRow])
 obtain rfl:=Option.some.inj ((show prog.globalNamed "internal/strconv.uint64pow10"=some 4 by kernel_rfl).symm.trans h1)
 obtain rfl:=Option.some.inj ((show(prog.globals[4]?).map (·.type)=some 230 by kernel_rfl).symm.trans h2)
 have h5:=Lib.cells_of_tab (k:=.u64) (zs:=Lib.pow10Tab) underlying230 underlying200 (by kernel_rfl) (by kernel_rfl) h4
 show w.var? _ _=_
 rw[h3]
 exact congrArg some (Array.toList_inj.1 h5)
theorem B7{w:World}(h:laidMetH prog jX w):HN w:=by
 rw[MakeChecks.laidMetH_plain _ _ _ (by kernel_rfl)]at h
 exact⟨IP (n:= "strconv.ErrSyntax") (nm:= "*errors.errorString") (d:=.ptr (.agg [.lit (.string [105,110,118,97,108,105,100,32,115,121,110,116,97,120])])) h (show("strconv.ErrSyntax",Rows.laid_strconv_ErrSyntax)∈jX by simp[jX,Rows.alarmMatchesReferenceRow]) (g:=2) (by kernel_rfl) (by kernel_rfl) underlying123,
  IP (n:= "strconv.ErrRange") (nm:= "*errors.errorString") (d:=.ptr (.agg [.lit (.string [118,97,108,117,101,32,111,117,116,32,111,102,32,114,97,110,103,101])])) h (show("strconv.ErrRange",Rows.laid_strconv_ErrRange)∈jX by simp[jX,Rows.alarmMatchesReferenceRow]) (g:=3) (by kernel_rfl) (by kernel_rfl) underlying123⟩
theorem M1{w:World}{n:String}{g:Nat}{zero:Array Value}{a b:List UInt8}{d:DataW Unit}(hs:w.ShapedOpen prog)(h:laidMetH prog jX w)(hm:(n,d)∈jX)(hd:d=.agg [.lit (.string a),.lit (.string b)])
 (hg:prog.globalNamed n=some g) (hlt:g < prog.globals.size) (ht:(prog.globals[g]?).map (·.type)=some tR) (h0:((begin prog (fun _ _=>0) default).world.heap[g]?).bind Obj.row?=some (zero,tR)):cM w g tR [bh a,bh b]:=by
 rw[MakeChecks.laidMetH_plain _ _ _ (by kernel_rfl)]at h
 obtain⟨ps,hl,_⟩:=h
 obtain⟨g',t,cs,fuel,p,h1,h2,h3,h4⟩:=yA hl hm
 obtain rfl:=Option.some.inj (hg.symm.trans h1)
 obtain rfl:=Option.some.inj (ht.symm.trans h2)
 obtain⟨cs',h5,_,_⟩:=hs.1 g zero tR hlt h0
 unfold World.var? at h3
 rw[hg]at h3
 simp only[Option.bind_some,h5,Option.some.injEq]at h3
 subst h3
 subst hd
 obtain⟨y0,y1,n',hx,hlen,k0,k1⟩:=trod_struct2 underlying25 h4
 have hc2:prog.cellsOf 25=2:=by kernel_rfl
 have hc1:prog.cellsOf 9=1:=by kernel_rfl
 rw[hc2]at hlen
 obtain⟨u,v,hcs⟩:∃ u v,cs'.toList=[u,v]:=by
  match hq:cs'.toList,hlen with
  | [u,v],_=>exact⟨u,v,rfl⟩
 rw[hcs]at k0 k1
 simp only[hc1]at k0 k1
 obtain⟨s0,e0,rfl,_⟩:=DataW.trod_string underlying9 k0
 obtain⟨s1,e1,rfl,_⟩:=DataW.trod_string underlying9 k1
 simp at e0 e1
 subst e0;subst e1
 simp at hx
 obtain⟨⟨hx0,hx1⟩,_⟩:=hx
 unfold cM
 rw[h5]
 have:cs'=[bh a,bh b].toArray:=by
  apply Array.toList_inj.1
  rw[hcs,hx0,hx1]
 rw[this]
theorem Qh{w:World}(hs:w.ShapedOpen prog)(h:laidMetH prog jX w):En w:=
 ⟨Du h,B7 h,M1 hs h (n:= "latecomer/alarm.zero") (d:=Rows.laid_latecomer_alarm_zero) (zero:=#[bh [],bh []]) (by simp[jX,Rows.alarmMatchesReferenceRow]) rfl (by kernel_rfl) (of_decide_eq_true (by kernel_rfl)) (by kernel_rfl) (by kernel_rfl),
  M1 hs h (n:= "latecomer/alarm.one") (d:=Rows.laid_latecomer_alarm_one) (zero:=#[bh [],bh []]) (by simp[jX,Rows.alarmMatchesReferenceRow]) rfl (by kernel_rfl) (of_decide_eq_true (by kernel_rfl)) (by kernel_rfl) (by kernel_rfl)⟩
section
variable{H:Type}{enc:TypeId×Value->H}{w:World}{sp:Nat->Bool}{held:Bool}
theorem ng:laidOutB prog=true:=by kernel_rfl
theorem eJ{z:Int}(h:(Lit.int .i64 z).wf=true):eS z:=by
 simp only[Lit.wf,Bool.and_eq_true,decide_eq_true_eq]at h
 have h1:IntKind.i64.min= -9223372036854775808:=by decide
 have h2:IntKind.i64.max=9223372036854775807:=by decide
 rw[h1,h2]at h
 exact h
theorem IQ{n:Nat}{cs:Array Value}(h:cs.size=n):∃ l:List Value,cs=l.toArray/\l.length=n:=⟨cs.toList,by simp,by simpa using h⟩
def SB(a b c d e f:Int):I6:=fun i=>if i=0 then a else if i=1 then b else if i=2 then c else if i=3 then d else if i=4 then e else f
theorem Qi{a b c d e f:Int}(h0:eS a)(h1:eS b)(h2:eS c)(h3:eS d)(h4:eS e)(h5:eS f):∀ i,eS (SB a b c d e f i):=fun i=>by
 unfold SB
 split
 ·exact h0
 ·split
  ·exact h1
  ·split
   ·exact h2
   ·split
    ·exact h3
    ·split
     ·exact h4
     ·exact h5
theorem IR(n:Nat)(cs:List Value)(x:DataW H×List MemPlace)(h:DataW.trod enc prog w 0 sp held n 25 cs=some x):∃ a:RS,cs=fR a/\K5 a:=by
 have hc2:prog.cellsOf 25=2:=by kernel_rfl
 have hc1:prog.cellsOf 9=1:=by kernel_rfl
 obtain⟨y0,y1,m,_,hcl,h0,h1⟩:=trod_struct2 underlying25 h
 rw[hc2]at hcl
 match cs,hcl with
 | [a,b],_=>
  simp only[hc1]at h0 h1
  obtain⟨s0,e0,_,k0⟩:=DataW.trod_string underlying9 h0
  obtain⟨s1,e1,_,k1⟩:=DataW.trod_string underlying9 h1
  simp at e0 e1
  subst e0;subst e1
  exact⟨(s0.data.toList,s1.data.toList),rfl,by have:s0.size<=maxLen:=k0;exact Nat.le_trans (by simpa using this) (by decide),by have:s1.size<=maxLen:=k1;exact Nat.le_trans (by simpa using this) (by decide)⟩
theorem Qj(n:Nat)(cs:List Value)(x:DataW H×List MemPlace)(h:DataW.trod enc prog w 0 sp held n 121 cs=some x):∃ a:I3,cs=fT a/\eS a.1/\eS a.2.1/\eS a.2.2:=by
 have hc2:prog.cellsOf 121=3:=by kernel_rfl
 have hc1:prog.cellsOf 3=1:=by kernel_rfl
 obtain⟨xs,m,_,_,hcl,hl,hi⟩:=DataW.trod_array underlying121 h
 rw[hc2]at hcl
 match cs,hcl with
 | [c0,c1,c2],_=>
  match xs,hl with
  | [y0,y1,y2],_=>
   have h0:=hi 0 (by decide)
   have h1:=hi 1 (by decide)
   have h2:=hi 2 (by decide)
   simp[hc1]at h0 h1 h2
   obtain⟨n0,e0,_,k0⟩:=DataW.trod_int underlying3 h0
   obtain⟨n1,e1,_,k1⟩:=DataW.trod_int underlying3 h1
   obtain⟨n2,e2,_,k2⟩:=DataW.trod_int underlying3 h2
   simp at e0 e1 e2
   subst e0;subst e1;subst e2
   exact⟨(n0,n1,n2),rfl,eJ k0,eJ k1,eJ k2⟩
theorem Qk(n:Nat)(cs:List Value)(x:DataW H×List MemPlace)(h:DataW.trod enc prog w 0 sp held n 39 cs=some x):∃ a:I6,cs=S3 a/\∀ i,eS (a i):=by
 have hc2:prog.cellsOf 39=6:=by kernel_rfl
 have hc1:prog.cellsOf 3=1:=by kernel_rfl
 obtain⟨xs,m,_,_,hcl,hl,hi⟩:=DataW.trod_array underlying39 h
 rw[hc2]at hcl
 match cs,hcl with
 | [c0,c1,c2,c3,c4,c5],_=>
  match xs,hl with
  | [y0,y1,y2,y3,y4,y5],_=>
   have h0:=hi 0 (by decide)
   have h1:=hi 1 (by decide)
   have h2:=hi 2 (by decide)
   have h3:=hi 3 (by decide)
   have h4:=hi 4 (by decide)
   have h5:=hi 5 (by decide)
   simp[hc1]at h0 h1 h2 h3 h4 h5
   obtain⟨n0,e0,_,k0⟩:=DataW.trod_int underlying3 h0
   obtain⟨n1,e1,_,k1⟩:=DataW.trod_int underlying3 h1
   obtain⟨n2,e2,_,k2⟩:=DataW.trod_int underlying3 h2
   obtain⟨n3,e3,_,k3⟩:=DataW.trod_int underlying3 h3
   obtain⟨n4,e4,_,k4⟩:=DataW.trod_int underlying3 h4
   obtain⟨n5,e5,_,k5⟩:=DataW.trod_int underlying3 h5
   simp at e0 e1 e2 e3 e4 e5
   subst e0;subst e1;subst e2;subst e3;subst e4;subst e5
   exact⟨SB n0 n1 n2 n3 n4 n5,rfl,Qi (eJ k0) (eJ k1) (eJ k2) (eJ k3) (eJ k4) (eJ k5)⟩
set_option maxHeartbeats 4000000 in
theorem Ql(n:Nat)(cs:List Value)(x:DataW H×List MemPlace)(h:DataW.trod enc prog w 0 sp held n 41 cs=some x):∃ a:Dd,cs=Nl a/\Ddk a:=by
 have hc2:prog.cellsOf 41=8:=by kernel_rfl
 have hc1:prog.cellsOf 3=1:=by kernel_rfl
 have hcx:prog.cellsOf 39=6:=by kernel_rfl
 obtain⟨xs,m,_,_,hcl,hl,hi⟩:=DataW.trod_struct underlying41 h
 rw[hc2]at hcl
 match cs,hcl with
 | [c0,c1,c2,c3,c4,c5,c6,c7],_=>
  match xs,hl with
  | [y0,y1,y2],_=>
   have h0:=hi 0 _ rfl
   have h1:=hi 1 _ rfl
   have h2:=hi 2 _ rfl
   simp[hc1,hcx]at h0 h1 h2
   obtain⟨n0,e0,_,k0⟩:=DataW.trod_int underlying3 h0
   obtain⟨n1,e1,k1⟩:=Qk _ _ _ h1
   obtain⟨n2,e2,_,k2⟩:=DataW.trod_int underlying3 h2
   simp at e0 e1 e2
   obtain⟨e1x0,e1x1,e1x2,e1x3,e1x4,e1x5⟩:=e1
   subst e0;subst e1x0;subst e1x1;subst e1x2;subst e1x3;subst e1x4;subst e1x5;subst e2
   exact⟨⟨n0,n1,n2⟩,rfl,⟨eJ k0,k1,eJ k2⟩⟩
set_option maxHeartbeats 4000000 in
theorem Qm(n:Nat)(cs:List Value)(x:DataW H×List MemPlace)(h:DataW.trod enc prog w 0 sp held n 65 cs=some x):∃ a:Ft,cs=fF a/\FI a:=by
 have hc2:prog.cellsOf 65=10:=by kernel_rfl
 have hc1:prog.cellsOf 3=1:=by kernel_rfl
 obtain⟨xs,m,_,_,hcl,hl,hi⟩:=DataW.trod_struct underlying65 h
 rw[hc2]at hcl
 match cs,hcl with
 | [c0,c1,c2,c3,c4,c5,c6,c7,c8,c9],_=>
  match xs,hl with
  | [y0,y1,y2,y3,y4,y5,y6,y7,y8,y9],_=>
   have h0:=hi 0 _ rfl
   have h1:=hi 1 _ rfl
   have h2:=hi 2 _ rfl
   have h3:=hi 3 _ rfl
   have h4:=hi 4 _ rfl
   have h5:=hi 5 _ rfl
   have h6:=hi 6 _ rfl
   have h7:=hi 7 _ rfl
   have h8:=hi 8 _ rfl
   have h9:=hi 9 _ rfl
   simp[hc1]at h0 h1 h2 h3 h4 h5 h6 h7 h8 h9
   obtain⟨n0,e0,_,k0⟩:=DataW.trod_int underlying3 h0
   obtain⟨n1,e1,_,k1⟩:=DataW.trod_int underlying3 h1
   obtain⟨n2,e2,_,k2⟩:=DataW.trod_int underlying3 h2
   obtain⟨n3,e3,_,k3⟩:=DataW.trod_int underlying3 h3
   obtain⟨n4,e4,_,k4⟩:=DataW.trod_int underlying3 h4
   obtain⟨n5,e5,_,k5⟩:=DataW.trod_int underlying3 h5
   obtain⟨n6,e6,_,k6⟩:=DataW.trod_int underlying3 h6
   obtain⟨n7,e7,_,k7⟩:=DataW.trod_int underlying3 h7
   obtain⟨n8,e8,_,k8⟩:=DataW.trod_int underlying3 h8
   obtain⟨n9,e9,_,k9⟩:=DataW.trod_int underlying3 h9
   simp at e0 e1 e2 e3 e4 e5 e6 e7 e8 e9
   subst e0;subst e1;subst e2;subst e3;subst e4;subst e5;subst e6;subst e7;subst e8;subst e9
   exact⟨⟨n0,n1,n2,n3,n4,n5,n6,n7,n8,n9⟩,rfl,⟨eJ k0,eJ k1,eJ k2,eJ k3,eJ k4,eJ k5,eJ k6,eJ k7,eJ k8,eJ k9⟩⟩
set_option maxHeartbeats 4000000 in
theorem M2(n:Nat)(cs:List Value)(x:DataW H×List MemPlace)(h:DataW.trod enc prog w 0 sp held n 30 cs=some x):∃ a:WR,cs=fW a/\WRB a:=by
 have hc2:prog.cellsOf 30=15:=by kernel_rfl
 have hc1:prog.cellsOf 3=1:=by kernel_rfl
 have hcb:prog.cellsOf 4=1:=by kernel_rfl
 have hcr:prog.cellsOf 25=2:=by kernel_rfl
 obtain⟨xs,m,_,_,hcl,hl,hi⟩:=DataW.trod_struct underlying30 h
 rw[hc2]at hcl
 match cs,hcl with
 | [c0,c1,c2,c3,c4,c5,c6,c7,c8,c9,c10,c11,c12,c13,c14],_=>
  match xs,hl with
  | [y0,y1,y2,y3,y4,y5,y6,y7,y8,y9,y10],_=>
   have h0:=hi 0 _ rfl
   have h1:=hi 1 _ rfl
   have h2:=hi 2 _ rfl
   have h3:=hi 3 _ rfl
   have h4:=hi 4 _ rfl
   have h5:=hi 5 _ rfl
   have h6:=hi 6 _ rfl
   have h7:=hi 7 _ rfl
   have h8:=hi 8 _ rfl
   have h9:=hi 9 _ rfl
   have h10:=hi 10 _ rfl
   simp[hc1,hcb,hcr]at h0 h1 h2 h3 h4 h5 h6 h7 h8 h9 h10
   obtain⟨n0,e0,_,k0⟩:=DataW.trod_int underlying3 h0
   obtain⟨n1,e1,_,k1⟩:=DataW.trod_int underlying3 h1
   obtain⟨n2,e2,_,k2⟩:=DataW.trod_int underlying3 h2
   obtain⟨n3,e3,k3⟩:=IR _ _ _ h3
   obtain⟨n4,e4,k4⟩:=IR _ _ _ h4
   obtain⟨n5,e5,k5⟩:=IR _ _ _ h5
   obtain⟨n6,e6,_,k6⟩:=DataW.trod_int underlying3 h6
   obtain⟨n7,e7,_,k7⟩:=DataW.trod_int underlying3 h7
   obtain⟨n8,e8,_,k8⟩:=DataW.trod_int underlying3 h8
   obtain⟨n9,e9,k9⟩:=IR _ _ _ h9
   obtain⟨n10,e10,_⟩:=DataW.trod_bool underlying4 h10
   simp at e0 e1 e2 e3 e4 e5 e6 e7 e8 e9 e10
   obtain⟨e3x0,e3x1⟩:=e3
   obtain⟨e4x0,e4x1⟩:=e4
   obtain⟨e5x0,e5x1⟩:=e5
   obtain⟨e9x0,e9x1⟩:=e9
   subst e0;subst e1;subst e2;subst e3x0;subst e3x1;subst e4x0;subst e4x1;subst e5x0;subst e5x1;subst e6;subst e7;subst e8;subst e9x0;subst e9x1;subst e10
   exact⟨⟨n0,n1,n2,n3,n4,n5,n6,n7,n8,n9,n10⟩,rfl,⟨eJ k0,eJ k1,eJ k2,k3,k4,k5,eJ k6,eJ k7,eJ k8,k9⟩⟩
theorem IT{b0:Nat}{r:Reach}{v:Value}{d:DataW H}{ps:List MemPlace}(hval:Value.okWide prog w r b0 22 v)(hd:DataW.Trod enc prog w 0 sp held 22 v d ps):∃ l:List I3,dJ w 3 v l.length (l.flatMap fT)/\(∀ a∈l,eS a.1/\eS a.2.1/\eS a.2.2)/\l.length<=maxLen:=
 yz fT (fun a:I3=>eS a.1/\eS a.2.1/\eS a.2.2) underlying22 (by kernel_rfl) (fun _=>rfl) Qj hval hd
theorem IU{b0:Nat}{r:Reach}{v:Value}{d:DataW H}{ps:List MemPlace}(hval:Value.okWide prog w r b0 23 v)(hd:DataW.Trod enc prog w 0 sp held 23 v d ps):∃ l:List Dd,dJ w 8 v l.length (l.flatMap Nl)/\(∀ a∈l,Ddk a)/\l.length<=maxLen:=
 yz Nl (fun a:Dd=>Ddk a) underlying23 (by kernel_rfl) (fun _=>rfl) Ql hval hd
theorem IV{b0:Nat}{r:Reach}{v:Value}{d:DataW H}{ps:List MemPlace}(hval:Value.okWide prog w r b0 31 v)(hd:DataW.Trod enc prog w 0 sp held 31 v d ps):∃ l:List Ft,dJ w 10 v l.length (l.flatMap fF)/\(∀ a∈l,FI a)/\l.length<=maxLen:=
 yz fF (fun a:Ft=>FI a) underlying31 (by kernel_rfl) (fun _=>rfl) Qm hval hd
theorem Ls{b0:Nat}{r:Reach}{v:Value}{d:DataW H}{ps:List MemPlace}(hval:Value.okWide prog w r b0 26 v)(hd:DataW.Trod enc prog w 0 sp held 26 v d ps):∃ l:List WR,dJ w 15 v l.length (l.flatMap fW)/\(∀ a∈l,WRB a)/\l.length<=maxLen:=
 yz fW (fun a:WR=>WRB a) underlying26 (by kernel_rfl) (fun _=>rfl) M2 hval hd
theorem IW{r:Reach}{b0:Nat}{v:Value}{d:DataW H}{ps:List MemPlace}(hval:Value.okWide prog w r b0 30 v)(hd:DataW.Trod enc prog w 0 sp held 30 v d ps):
 ∃ x:WR,v=vW x/\WRB x:=by
 obtain⟨cs,rfl,hc⟩:=okWide_struct underlying30 hval
 obtain⟨fuel,hf⟩:=hd
 obtain⟨x,e,k⟩:=M2 fuel cs.toList (d,ps) (by simpa [Value.cells] using hf)
 exact⟨x,congrArg Value.agg (Array.toList_inj.1 e),k⟩
theorem IX{b0:Nat}{r:Reach}{v:Value}{d:DataW H}{ps:List MemPlace}(hval:Value.okWide prog w r b0 28 v)(hd:DataW.Trod enc prog w 0 sp held 28 v d ps):
 ∃(p:RS) (a:Option Addr) (n k:Nat) (l:List WR),v=vA p (.slice a n k)/\K5 p/\dJ w 15 (.slice a n k) l.length (l.flatMap fW)/\(∀ a∈l,WRB a)/\l.length<=maxLen:=by
 simp only[Value.okWide,underlying28]at hval
 obtain⟨cs,rfl,hc,ts,hts,_,hro⟩:=hval
 obtain⟨fuel,hf⟩:=hd
 have hc2:prog.cellsOf 28=3:=by kernel_rfl
 have hcs:prog.cellsOf 26=1:=by kernel_rfl
 have hcr:prog.cellsOf 25=2:=by kernel_rfl
 rw[hc2]at hc
 obtain⟨l,rfl,hl3⟩:=IQ hc
 match l,hl3 with
 | [a,b,c],_=>
  obtain⟨xs,m,_,hx,_,hl,hi⟩:=DataW.trod_struct underlying28 hf
  match xs,hl with
  | [y0,y1],_=>
   have h0:=hi 0 _ rfl
   have h1:=hi 1 _ rfl
   simp[Value.cells,hcr,hcs]at h0 h1
   obtain⟨p,e0,kp⟩:=IR _ _ _ h0
   simp at e0
   obtain⟨e0,e1⟩:=e0
   subst e0;subst e1
   have ht:ts=[9,9,26]:=by
    have:prog.cellTypes prog.depth 28=some [9,9,26]:=by kernel_rfl
    rw[this]at hts
    exact(Option.some.inj hts).symm
   subst ht
   obtain⟨u,hu,hok⟩:=hro 2 c rfl
   obtain rfl:26=u:=by simpa using hu
   have hv:Value.okWide prog w r b0 26 c:=by
    simp only[Value.okWide,underlying26]
    exact hok
   obtain⟨a',len,cap,rfl⟩:=okWide_slice underlying26 hv
   obtain⟨l,h4,h5,h6⟩:=Ls hv (d:=y1.1) (ps:=y1.2) ⟨m,by simpa [Value.cells] using h1⟩
   exact⟨p,a',len,cap,l,rfl,kp,h4,h5,h6⟩
end
end Go.Proofs.YtnkmbjedcjcccaaGreatDoor
