/-
  Contracts and plain lemmas. By an AI agent.
-/
import Derived.Test.YtnkmbjedcjcccaaGreatDoorAlN
set_option linter.all false
namespace Go.Proofs.YtnkmbjedcjcccaaGreatDoor
open Tryz
open Go Go.Eng Go.Proofs Go.Num Go.RowKit
open Go.Alm (Ft Wt Sm VW VA dn gO obs obs1 dD obsN)
set_option maxRecDepth 100000
def wv(p:Ft->Bool)(l:List Ft):Nat:=(l.filter p).length
theorem pg{p:Ft->Bool}{l:List Ft}{i:Nat}{f:Ft}(h:l[i]?=some f):wv p (l.take (i+1))=wv p (l.take i)+(if p f then 1 else 0):=by
 unfold wv
 rw[List.take_add_one,h,List.filter_append,List.length_append]
 show _+(List.filter p [f]).length=_
 rw[List.filter_cons]
 split <;> rfl
theorem ww(p:Ft->Bool)(l:List Ft):wv p l<=l.length:=List.length_filter_le _ _
def lR(op ve:Int)(f:Ft):Bool:=f.op == op && f.ve == ve
noncomputable def kU(l:List Ft)(op ve lim:Int):Value:=if Ma l && decide (0<=lim/\lim<=4398046511104) then .tuple #[.int .i64 (wv (fun f=>lR op ve f && decide (lim < f.lo)) l:Nat),.int .i64 (wv (fun f=>lR op ve f && decide (lim < f.hi)) l:Nat),.int .i64 (wv (lR op ve) l:Nat),.int .i64 0] else .tuple #[.int .i64 0,.int .i64 0,.int .i64 0,.int .i64 280]
section
variable{w0:World}{v:Value}{l:List Ft}{op ve lim:Int}(hF:Fk w0 v l)(ho:eS op)(hv:eS ve)(hl:eS lim)
include hF ho hv hl
set_option maxHeartbeats 8000000 in
theorem IA:Calls prog 28 #[v,.int .i64 op,.int .i64 ve,.int .i64 lim] w0 (bQ fun o w'=>bK w0 w'/\o=kU l op ve lim):=by
 have hV:=fun {W:World} (e:bK w0 W)=>JV (w0:=W) (hF.ext e)
 have hfv:=hF.hv
 by_cases hok:tC l
 rotate_left
 ·have e:kU l op ve lim=.tuple #[.int .i64 0,.int .i64 0,.int .i64 0,.int .i64 280]:=by unfold kU;rw[qH hok];rfl
  rw[e]
  rw[qH hok]at hV
  have cc1:=@hV
  apply qv
  unfold mV
  have h:=Hp.init [] w0
  refine ce h gF (cc1 h.ext) fun w h=>?_
  refine d7 (aR (aR (aR (aQ (co ?_)))))
  exact bQ.mk ⟨h.ext,rfl⟩
 rw[rS hok]at hV
 have cc1:=@hV
 by_cases hli:0<=lim/\lim<=4398046511104
 rotate_left
 ·have e:kU l op ve lim=.tuple #[.int .i64 0,.int .i64 0,.int .i64 0,.int .i64 280]:=by unfold kU;rw[rS hok,decide_eq_false hli];rfl
  rw[e]
  have cc2:=fun {W:World} (e:bK w0 W)=>zq (w:=W) hli
  apply qv
  unfold mV
  have h:=Hp.init [] w0
  refine ce h gF (cc1 h.ext) fun w h=>?_
  refine ct (ah (ah (ce h cX (cc2 h.ext) fun w h=>?_)))
  refine ah (d7 (aw (co ?_)))
  exact bQ.mk ⟨h.ext,rfl⟩
 have e:kU l op ve lim=.tuple #[.int .i64 (wv (fun f=>lR op ve f && decide (lim < f.lo)) l:Nat),.int .i64 (wv (fun f=>lR op ve f && decide (lim < f.hi)) l:Nat),.int .i64 (wv (lR op ve) l:Nat),.int .i64 0]:=by unfold kU;rw[rS hok,decide_eq_true hli];rfl
 rw[e]
 have cc2:=fun {W:World} (e:bK w0 W)=>zm (w:=W) hli
 have h400:=hok.1
 apply qv
 unfold mV
 have h:=Hp.init [] w0
 refine ce h gF (cc1 h.ext) fun w h=>?_
 refine ct (ah (ah (ce h cX (cc2 h.ext) fun w h=>?_)))
 refine ah (ct (aw (cf (gS (hfv.hp h) ?_))))
 refine P9.mk (fun a b c d W=>∃ i:Nat,i<=l.length/\a=.int .i64 (wv (fun f=>lR op ve f && decide (lim < f.lo)) (l.take i):Nat)/\b=.int .i64 (wv (fun f=>lR op ve f && decide (lim < f.hi)) (l.take i):Nat)/\c=.int .i64 (wv (lR op ve) (l.take i):Nat)/\d=.int .i64 i/\Hp [] w0 W [])
  (fun _ _ _ d _=>match d with | .int _ x=>l.length - x.toNat | _=>0) ⟨0,by omega,rfl,rfl,rfl,rfl,h⟩ ?_
 clear h cc1 cc2 hV
 rintro _ _ _ _ W ⟨i,hi,rfl,rfl,rfl,rfl,h⟩
 by_cases hin:i < l.length
 ·refine Exists.elim (p:=fun x=>l[i]?=some x) ⟨_,List.getElem?_eq_getElem hin⟩ fun f hx=>?_
  have sf:iY (l.flatMap fF) (i * 10) (fF f):=cZ (f:=fF) (fun _=>rfl) hx
  have hfi:=hF.hi f (List.mem_of_getElem? hx)
  have f4:=hfi.ve
  have f5:=hfi.op
  have f8:=hfi.lo
  have f9:=hfi.hi
  have hlt:(l.take i).length<=400:=by rw[List.length_take];omega
  have n1:=ww (fun f=>lR op ve f && decide (lim < f.lo)) (l.take i)
  have n2:=ww (fun f=>lR op ve f && decide (lim < f.hi)) (l.take i)
  have n3:=ww (lR op ve) (l.take i)
  have s1:=pg (p:=fun f=>lR op ve f && decide (lim < f.lo)) hx
  have s2:=pg (p:=fun f=>lR op ve f && decide (lim < f.hi)) hx
  have s3:=pg (p:=lR op ve) hx
  by_cases ho1:f.op=op
  rotate_left
  ·have hh:lR op ve f=false:=by unfold lR;rw[beq_eq_false_iff_ne.2 ho1];rfl
   rw[hh]at s1 s2 s3
   refine cy (by omega) (co (lU h ‹_› (by omega) fun zb zo zk zv zc=>?_))
   refine wD h ‹_› ‹_› (by rfl) ?_
   refine du h fun g1 w h=>?_
   refine de h 0 rfl rfl rfl rfl fun w h=>?_
   refine ck (Eng.ld1 h 0 rfl rfl (gi (by omega) (aR (aR (aR (aR (aQ (co (cF (by omega) (by omega) ?_)))))))))
   dsimp only[List.set]at h
   exact⟨⟨i+1,by omega,by rw[s1];rfl,by rw[s2];rfl,by rw[s3];rfl,rfl,h.drop 1⟩,by show l.length - ((i:Int)+1).toNat < l.length - (i:Int).toNat;omega⟩
  by_cases hv1:f.ve=ve
  rotate_left
  ·have hh:lR op ve f=false:=by unfold lR;rw[beq_eq_false_iff_ne.2 hv1,Bool.and_false]
   rw[hh]at s1 s2 s3
   refine cy (by omega) (co (lU h ‹_› (by omega) fun zb zo zk zv zc=>?_))
   refine wD h ‹_› ‹_› (by rfl) ?_
   refine du h fun g1 w h=>?_
   refine de h 0 rfl rfl rfl rfl fun w h=>?_
   refine ck (Eng.ld1 h 0 rfl rfl (cE (by omega) (ah (ck (ah (Eng.ld1 h 0 rfl rfl (ah (ah (gi (by omega) (aw (co (cF (by omega) (by omega) ?_))))))))))))
   dsimp only[List.set]at h
   exact⟨⟨i+1,by omega,by rw[s1];rfl,by rw[s2];rfl,by rw[s3];rfl,rfl,h.drop 1⟩,by show l.length - ((i:Int)+1).toNat < l.length - (i:Int).toNat;omega⟩
  have hh:lR op ve f=true:=by unfold lR;rw[ho1,hv1,beq_self_eq_true,beq_self_eq_true];rfl
  rw[hh]at s1 s2 s3
  by_cases hlo:lim < f.lo
  ·rw[decide_eq_true hlo]at s1
   by_cases hhi:lim < f.hi
   ·rw[decide_eq_true hhi]at s2
    refine cy (by omega) (co (lU h ‹_› (by omega) fun zb zo zk zv zc=>?_))
    refine wD h ‹_› ‹_› (by rfl) ?_
    refine du h fun g1 w h=>?_
    refine de h 0 rfl rfl rfl rfl fun w h=>?_
    refine ck (Eng.ld1 h 0 rfl rfl (cE (by omega) (ah (ck (ah (Eng.ld1 h 0 rfl rfl (ah (ah (cE (by omega) (aw (cf (cF (by omega) (by omega) ?_))))))))))))
    dsimp only[List.set]at h
    refine mE.lf (.int .i64 (((wv (fun f=>lR op ve f && decide (lim < f.lo)) (l.take i):Nat):Int)+1)) h (fun K lf1=>?_) (fun W1 h=>?_)
    ·refine ck (Eng.ld1 h 0 rfl rfl (eB (by omega) (co (cF (by omega) (by omega) ?_))))
     exact lf1 _ h
    ·refine ck (Eng.ld1 h 0 rfl rfl (eB (by omega) (co (cF (by omega) (by omega) (cF (by omega) (by omega) ?_)))))
     exact⟨⟨i+1,by omega,by rw[s1];rfl,by rw[s2];rfl,by rw[s3];rfl,rfl,h.drop 1⟩,by show l.length - ((i:Int)+1).toNat < l.length - (i:Int).toNat;omega⟩
   ·rw[decide_eq_false hhi]at s2
    refine cy (by omega) (co (lU h ‹_› (by omega) fun zb zo zk zv zc=>?_))
    refine wD h ‹_› ‹_› (by rfl) ?_
    refine du h fun g1 w h=>?_
    refine de h 0 rfl rfl rfl rfl fun w h=>?_
    refine ck (Eng.ld1 h 0 rfl rfl (cE (by omega) (ah (ck (ah (Eng.ld1 h 0 rfl rfl (ah (ah (cE (by omega) (aw (cf (cF (by omega) (by omega) ?_))))))))))))
    dsimp only[List.set]at h
    refine mE.lf (.int .i64 (((wv (fun f=>lR op ve f && decide (lim < f.lo)) (l.take i):Nat):Int)+1)) h (fun K lf1=>?_) (fun W1 h=>?_)
    ·refine ck (Eng.ld1 h 0 rfl rfl (eB (by omega) (co (cF (by omega) (by omega) ?_))))
     exact lf1 _ h
    ·refine ck (Eng.ld1 h 0 rfl rfl (d9 (by omega) (cf (cF (by omega) (by omega) ?_))))
     exact⟨⟨i+1,by omega,by rw[s1];rfl,by rw[s2];rfl,by rw[s3];rfl,rfl,h.drop 1⟩,by show l.length - ((i:Int)+1).toNat < l.length - (i:Int).toNat;omega⟩
  ·rw[decide_eq_false hlo]at s1
   by_cases hhi:lim < f.hi
   ·rw[decide_eq_true hhi]at s2
    refine cy (by omega) (co (lU h ‹_› (by omega) fun zb zo zk zv zc=>?_))
    refine wD h ‹_› ‹_› (by rfl) ?_
    refine du h fun g1 w h=>?_
    refine de h 0 rfl rfl rfl rfl fun w h=>?_
    refine ck (Eng.ld1 h 0 rfl rfl (cE (by omega) (ah (ck (ah (Eng.ld1 h 0 rfl rfl (ah (ah (cE (by omega) (aw (cf (cF (by omega) (by omega) ?_))))))))))))
    dsimp only[List.set]at h
    refine mE.lf (.int .i64 (wv (fun f=>lR op ve f && decide (lim < f.lo)) (l.take i):Nat)) h (fun K lf1=>?_) (fun W1 h=>?_)
    ·refine ck (Eng.ld1 h 0 rfl rfl (d9 (by omega) (cf ?_)))
     exact lf1 _ h
    ·refine ck (Eng.ld1 h 0 rfl rfl (eB (by omega) (co (cF (by omega) (by omega) (cF (by omega) (by omega) ?_)))))
     exact⟨⟨i+1,by omega,by rw[s1];rfl,by rw[s2];rfl,by rw[s3];rfl,rfl,h.drop 1⟩,by show l.length - ((i:Int)+1).toNat < l.length - (i:Int).toNat;omega⟩
   ·rw[decide_eq_false hhi]at s2
    refine cy (by omega) (co (lU h ‹_› (by omega) fun zb zo zk zv zc=>?_))
    refine wD h ‹_› ‹_› (by rfl) ?_
    refine du h fun g1 w h=>?_
    refine de h 0 rfl rfl rfl rfl fun w h=>?_
    refine ck (Eng.ld1 h 0 rfl rfl (cE (by omega) (ah (ck (ah (Eng.ld1 h 0 rfl rfl (ah (ah (cE (by omega) (aw (cf (cF (by omega) (by omega) ?_))))))))))))
    dsimp only[List.set]at h
    refine mE.lf (.int .i64 (wv (fun f=>lR op ve f && decide (lim < f.lo)) (l.take i):Nat)) h (fun K lf1=>?_) (fun W1 h=>?_)
    ·refine ck (Eng.ld1 h 0 rfl rfl (d9 (by omega) (cf ?_)))
     exact lf1 _ h
    ·refine ck (Eng.ld1 h 0 rfl rfl (d9 (by omega) (cf (cF (by omega) (by omega) ?_))))
     exact⟨⟨i+1,by omega,by rw[s1];rfl,by rw[s2];rfl,by rw[s3];rfl,rfl,h.drop 1⟩,by show l.length - ((i:Int)+1).toNat < l.length - (i:Int).toNat;omega⟩
 ·have hie:i=l.length:=by omega
  have et:l.take i=l:=by rw[hie,List.take_length]
  refine cD (by omega) (cf ?_)
  exact bQ.mk ⟨h.ext,by rw[et]⟩
set_option maxHeartbeats 8000000 in
theorem Lf:Calls prog 29 #[v,.int .i64 op,.int .i64 ve,.int .i64 lim] w0 (bQ fun o w'=>bK w0 w'/\o=kU l op ve lim):=by
 have hV:=fun {W:World} (e:bK w0 W)=>Fv (w0:=W) (hF.ext e)
 have hfv:=hF.hv
 by_cases hok:tC l
 rotate_left
 ·have e:kU l op ve lim=.tuple #[.int .i64 0,.int .i64 0,.int .i64 0,.int .i64 280]:=by unfold kU;rw[qH hok];rfl
  rw[e]
  rw[qH hok]at hV
  have cc1:=@hV
  apply qw
  unfold mW
  have h:=Hp.init [] w0
  refine ce h gG (cc1 h.ext) fun w h=>?_
  refine d7 (aR (aR (aR (aQ (co ?_)))))
  exact bQ.mk ⟨h.ext,rfl⟩
 rw[rS hok]at hV
 have cc1:=@hV
 by_cases hli:0<=lim/\lim<=4398046511104
 rotate_left
 ·have e:kU l op ve lim=.tuple #[.int .i64 0,.int .i64 0,.int .i64 0,.int .i64 280]:=by unfold kU;rw[rS hok,decide_eq_false hli];rfl
  rw[e]
  have cc2:=fun {W:World} (e:bK w0 W)=>uF (w:=W) hli
  apply qw
  unfold mW
  have h:=Hp.init [] w0
  refine ce h gG (cc1 h.ext) fun w h=>?_
  refine ct (ah (ah (ce h cY (cc2 h.ext) fun w h=>?_)))
  refine ah (d7 (aw (co ?_)))
  exact bQ.mk ⟨h.ext,rfl⟩
 have e:kU l op ve lim=.tuple #[.int .i64 (wv (fun f=>lR op ve f && decide (lim < f.lo)) l:Nat),.int .i64 (wv (fun f=>lR op ve f && decide (lim < f.hi)) l:Nat),.int .i64 (wv (lR op ve) l:Nat),.int .i64 0]:=by unfold kU;rw[rS hok,decide_eq_true hli];rfl
 rw[e]
 have cc2:=fun {W:World} (e:bK w0 W)=>uE (w:=W) hli
 have h400:=hok.1
 apply qw
 unfold mW
 have h:=Hp.init [] w0
 refine ce h gG (cc1 h.ext) fun w h=>?_
 refine ct (ah (ah (ce h cY (cc2 h.ext) fun w h=>?_)))
 refine ah (ct (aw (cf ?_)))
 refine P9.mk (fun a b c d W=>∃ i:Nat,i<=l.length/\a=.int .i64 (wv (fun f=>lR op ve f && decide (lim < f.lo)) (l.take i):Nat)/\b=.int .i64 (wv (fun f=>lR op ve f && decide (lim < f.hi)) (l.take i):Nat)/\c=.int .i64 (wv (lR op ve) (l.take i):Nat)/\d=.int .i64 i/\Hp [] w0 W [])
  (fun _ _ _ d _=>match d with | .int _ x=>l.length - x.toNat | _=>0) ⟨0,by omega,rfl,rfl,rfl,rfl,h⟩ ?_
 clear h cc1 cc2 hV
 rintro _ _ _ _ W ⟨i,hi,rfl,rfl,rfl,rfl,h⟩
 by_cases hin:i < l.length
 ·refine Exists.elim (p:=fun x=>l[i]?=some x) ⟨_,List.getElem?_eq_getElem hin⟩ fun f hx=>?_
  have sf:iY (l.flatMap fF) (i * 10) (fF f):=cZ (f:=fF) (fun _=>rfl) hx
  have hfi:=hF.hi f (List.mem_of_getElem? hx)
  have f4:=hfi.ve
  have f5:=hfi.op
  have f8:=hfi.lo
  have f9:=hfi.hi
  have hlt:(l.take i).length<=400:=by rw[List.length_take];omega
  have n1:=ww (fun f=>lR op ve f && decide (lim < f.lo)) (l.take i)
  have n2:=ww (fun f=>lR op ve f && decide (lim < f.hi)) (l.take i)
  have n3:=ww (lR op ve) (l.take i)
  have s1:=pg (p:=fun f=>lR op ve f && decide (lim < f.lo)) hx
  have s2:=pg (p:=fun f=>lR op ve f && decide (lim < f.hi)) hx
  have s3:=pg (p:=lR op ve) hx
  by_cases ho1:f.op=op
  rotate_left
  ·have hh:lR op ve f=false:=by unfold lR;rw[beq_eq_false_iff_ne.2 ho1];rfl
   rw[hh]at s1 s2 s3
   refine gS (hfv.hp h) ?_
   refine cy (by omega) (co (lU h ‹_› (by omega) fun zb zo zk zv zc=>?_))
   refine ck (Co h ‹_› ‹_› (by rfl) ?_)
   refine gi (by omega) (aR (aR (aR (aR (aR (aR (aR (aQ (co (cF (by omega) (by omega) ?_))))))))))
   exact⟨⟨i+1,by omega,by rw[s1];rfl,by rw[s2];rfl,by rw[s3];rfl,rfl,h.drop 0⟩,by show l.length - ((i:Int)+1).toNat < l.length - (i:Int).toNat;omega⟩
  by_cases hv1:f.ve=ve
  rotate_left
  ·have hh:lR op ve f=false:=by unfold lR;rw[beq_eq_false_iff_ne.2 hv1,Bool.and_false]
   rw[hh]at s1 s2 s3
   refine gS (hfv.hp h) ?_
   refine cy (by omega) (co (lU h ‹_› (by omega) fun zb zo zk zv zc=>?_))
   refine ck (Co h ‹_› ‹_› (by rfl) ?_)
   refine cE (by omega) (ah (ah (ah (lU h ‹_› (by omega) fun zb zo zk zv zc=>?_))))
   refine ah (ck (ah (Co h ‹_› ‹_› (by rfl) ?_)))
   refine ah (ah (gi (by omega) (aw (co (cF (by omega) (by omega) ?_)))))
   exact⟨⟨i+1,by omega,by rw[s1];rfl,by rw[s2];rfl,by rw[s3];rfl,rfl,h.drop 0⟩,by show l.length - ((i:Int)+1).toNat < l.length - (i:Int).toNat;omega⟩
  have hh:lR op ve f=true:=by unfold lR;rw[ho1,hv1,beq_self_eq_true,beq_self_eq_true];rfl
  rw[hh]at s1 s2 s3
  by_cases hlo:lim < f.lo
  ·rw[decide_eq_true hlo]at s1
   by_cases hhi:lim < f.hi
   ·rw[decide_eq_true hhi]at s2
    refine gS (hfv.hp h) ?_
    refine cy (by omega) (co (lU h ‹_› (by omega) fun zb zo zk zv zc=>?_))
    refine ck (Co h ‹_› ‹_› (by rfl) ?_)
    refine cE (by omega) (ah (ah (ah (lU h ‹_› (by omega) fun zb zo zk zv zc=>?_))))
    refine ah (ck (ah (Co h ‹_› ‹_› (by rfl) ?_)))
    refine ah (ah (cE (by omega) (aw (cf (cF (by omega) (by omega) ?_)))))
    refine mE.lf (.int .i64 (((wv (fun f=>lR op ve f && decide (lim < f.lo)) (l.take i):Nat):Int)+1)) h (fun K lf1=>?_) (fun W1 h=>?_)
    ·refine lU h ‹_› (by omega) fun zb zo zk zv zc=>?_
     refine ck (Co h ‹_› ‹_› (by rfl) ?_)
     refine eB (by omega) (co (cF (by omega) (by omega) ?_))
     exact lf1 _ h
    ·refine lU h ‹_› (by omega) fun zb zo zk zv zc=>?_
     refine ck (Co h ‹_› ‹_› (by rfl) ?_)
     refine eB (by omega) (co (cF (by omega) (by omega) (cF (by omega) (by omega) ?_)))
     exact⟨⟨i+1,by omega,by rw[s1];rfl,by rw[s2];rfl,by rw[s3];rfl,rfl,h.drop 0⟩,by show l.length - ((i:Int)+1).toNat < l.length - (i:Int).toNat;omega⟩
   ·rw[decide_eq_false hhi]at s2
    refine gS (hfv.hp h) ?_
    refine cy (by omega) (co (lU h ‹_› (by omega) fun zb zo zk zv zc=>?_))
    refine ck (Co h ‹_› ‹_› (by rfl) ?_)
    refine cE (by omega) (ah (ah (ah (lU h ‹_› (by omega) fun zb zo zk zv zc=>?_))))
    refine ah (ck (ah (Co h ‹_› ‹_› (by rfl) ?_)))
    refine ah (ah (cE (by omega) (aw (cf (cF (by omega) (by omega) ?_)))))
    refine mE.lf (.int .i64 (((wv (fun f=>lR op ve f && decide (lim < f.lo)) (l.take i):Nat):Int)+1)) h (fun K lf1=>?_) (fun W1 h=>?_)
    ·refine lU h ‹_› (by omega) fun zb zo zk zv zc=>?_
     refine ck (Co h ‹_› ‹_› (by rfl) ?_)
     refine eB (by omega) (co (cF (by omega) (by omega) ?_))
     exact lf1 _ h
    ·refine lU h ‹_› (by omega) fun zb zo zk zv zc=>?_
     refine ck (Co h ‹_› ‹_› (by rfl) ?_)
     refine d9 (by omega) (cf (cF (by omega) (by omega) ?_))
     exact⟨⟨i+1,by omega,by rw[s1];rfl,by rw[s2];rfl,by rw[s3];rfl,rfl,h.drop 0⟩,by show l.length - ((i:Int)+1).toNat < l.length - (i:Int).toNat;omega⟩
  ·rw[decide_eq_false hlo]at s1
   by_cases hhi:lim < f.hi
   ·rw[decide_eq_true hhi]at s2
    refine gS (hfv.hp h) ?_
    refine cy (by omega) (co (lU h ‹_› (by omega) fun zb zo zk zv zc=>?_))
    refine ck (Co h ‹_› ‹_› (by rfl) ?_)
    refine cE (by omega) (ah (ah (ah (lU h ‹_› (by omega) fun zb zo zk zv zc=>?_))))
    refine ah (ck (ah (Co h ‹_› ‹_› (by rfl) ?_)))
    refine ah (ah (cE (by omega) (aw (cf (cF (by omega) (by omega) ?_)))))
    refine mE.lf (.int .i64 (wv (fun f=>lR op ve f && decide (lim < f.lo)) (l.take i):Nat)) h (fun K lf1=>?_) (fun W1 h=>?_)
    ·refine lU h ‹_› (by omega) fun zb zo zk zv zc=>?_
     refine ck (Co h ‹_› ‹_› (by rfl) ?_)
     refine d9 (by omega) (cf ?_)
     exact lf1 _ h
    ·refine lU h ‹_› (by omega) fun zb zo zk zv zc=>?_
     refine ck (Co h ‹_› ‹_› (by rfl) ?_)
     refine eB (by omega) (co (cF (by omega) (by omega) (cF (by omega) (by omega) ?_)))
     exact⟨⟨i+1,by omega,by rw[s1];rfl,by rw[s2];rfl,by rw[s3];rfl,rfl,h.drop 0⟩,by show l.length - ((i:Int)+1).toNat < l.length - (i:Int).toNat;omega⟩
   ·rw[decide_eq_false hhi]at s2
    refine gS (hfv.hp h) ?_
    refine cy (by omega) (co (lU h ‹_› (by omega) fun zb zo zk zv zc=>?_))
    refine ck (Co h ‹_› ‹_› (by rfl) ?_)
    refine cE (by omega) (ah (ah (ah (lU h ‹_› (by omega) fun zb zo zk zv zc=>?_))))
    refine ah (ck (ah (Co h ‹_› ‹_› (by rfl) ?_)))
    refine ah (ah (cE (by omega) (aw (cf (cF (by omega) (by omega) ?_)))))
    refine mE.lf (.int .i64 (wv (fun f=>lR op ve f && decide (lim < f.lo)) (l.take i):Nat)) h (fun K lf1=>?_) (fun W1 h=>?_)
    ·refine lU h ‹_› (by omega) fun zb zo zk zv zc=>?_
     refine ck (Co h ‹_› ‹_› (by rfl) ?_)
     refine d9 (by omega) (cf ?_)
     exact lf1 _ h
    ·refine lU h ‹_› (by omega) fun zb zo zk zv zc=>?_
     refine ck (Co h ‹_› ‹_› (by rfl) ?_)
     refine d9 (by omega) (cf (cF (by omega) (by omega) ?_))
     exact⟨⟨i+1,by omega,by rw[s1];rfl,by rw[s2];rfl,by rw[s3];rfl,rfl,h.drop 0⟩,by show l.length - ((i:Int)+1).toNat < l.length - (i:Int).toNat;omega⟩
 ·have hie:i=l.length:=by omega
  have et:l.take i=l:=by rw[hie,List.take_length]
  refine gS (hfv.hp h) ?_
  refine cD (by omega) (cf ?_)
  exact bQ.mk ⟨h.ext,by rw[et]⟩
end
theorem Lg{α:Type}{xs ys:List α}{j:Nat}{x y:α}(hx:xs[j]?=some x)(hy:ys[j]?=some y)(h:x≠y):xs≠ys:=fun e=>by
 subst e
 rw[hx]at hy
 exact h (Option.some.inj hy)
section
variable{w0:World}{v u:Value}{xs ys:List Nat}(hv:dJ w0 1 v xs.length (xs.flatMap fN))(hu:dJ w0 1 u ys.length (ys.flatMap fN))(hx:xs.length<=1000000)(hy:ys.length<=1000000)(hxl:∀ x∈xs,x<=1000000)(hyl:∀ x∈ys,x<=1000000)
include hv hu hx hy hxl hyl
theorem IB:Calls prog 26 #[v,u] w0 (bQ fun r w'=>bK w0 w'/\r=.bool (decide (xs=ys))):=by
 by_cases hl:xs.length=ys.length
 rotate_left
 ·rw[decide_eq_false fun e=>hl (by rw[e])]
  apply vP
  unfold qu
  have h:=Hp.init [] w0
  refine gS (hv.hp h) ?_
  refine gS (hu.hp h) ?_
  refine gi (by omega) (co ?_)
  exact bQ.mk ⟨h.ext,rfl⟩
 obtain⟨b,hb⟩:∃ b,decide (xs=ys)=b:=⟨_,rfl⟩
 rw[hb]
 apply vP
 unfold qu
 have h:=Hp.init [] w0
 refine gS (hv.hp h) ?_
 refine gS (hu.hp h) ?_
 refine cE (by omega) (cf (jt.mk (fun i W=>∃ j:Nat,j<=xs.length/\i=.int .i64 j/\xs.take j=ys.take j/\Hp [] w0 W []) (fun i _=>match i with | .int _ i'=>xs.length - i'.toNat | _=>0) ⟨0,by omega,rfl,rfl,h⟩ ?_))
 clear h
 rintro _ W ⟨j,hj,rfl,ht,h⟩
 by_cases hjl:j < xs.length
 ·refine Exists.elim (p:=fun x=>xs[j]?=some x) ⟨_,List.getElem?_eq_getElem hjl⟩ fun x hxj=>?_
  refine Exists.elim (p:=fun y=>ys[j]?=some y) ⟨_,List.getElem?_eq_getElem (by omega)⟩ fun y hyj=>?_
  have sx:iY (xs.flatMap fN) (j * 1) (fN x):=cZ (f:=fN) (fun _=>rfl) hxj
  have sy:iY (ys.flatMap fN) (j * 1) (fN y):=cZ (f:=fN) (fun _=>rfl) hyj
  have hx1:=hxl x (List.mem_of_getElem? hxj)
  have hy1:=hyl y (List.mem_of_getElem? hyj)
  by_cases hxy:x=y
  ·subst hxy
   refine gS (hv.hp h) ?_
   refine cy (by omega) (co ?_)
   replace h:=h.dr
   refine nT h ‹_› (by omega) fun zb zo zk zv zc=>?_
   refine QJ h ‹_› ‹_› (by rfl) ?_
   refine nT h ‹_› (by omega) fun zb zo zk zv zc=>?_
   refine QJ h ‹_› ‹_› (by rfl) ?_
   refine wT (by omega) (cf (cF (by omega) (by omega) ?_))
   exact⟨⟨j+1,by omega,rfl,by rw[iA hxj,iA hyj,ht],h⟩,by show xs.length - ((j:Int)+1).toNat < xs.length - (j:Int).toNat;omega⟩
  ·have e2:b=false:=by rw[<-hb];exact decide_eq_false (Lg hxj hyj hxy)
   subst e2
   refine gS (hv.hp h) ?_
   refine cy (by omega) (co ?_)
   replace h:=h.dr
   refine nT h ‹_› (by omega) fun zb zo zk zv zc=>?_
   refine QJ h ‹_› ‹_› (by rfl) ?_
   refine nT h ‹_› (by omega) fun zb zo zk zv zc=>?_
   refine QJ h ‹_› ‹_› (by rfl) ?_
   refine FZ (by omega) (co ?_)
   exact bQ.mk ⟨h.ext,rfl⟩
 rw[List.take_of_length_le (by omega),List.take_of_length_le (by omega)]at ht
 have e2:b=true:=by rw[<-hb];exact decide_eq_true ht
 subst e2
 refine gS (hv.hp h) ?_
 refine cD (by omega) (cf ?_)
 exact bQ.mk ⟨h.ext,rfl⟩
end
def IC(t lo hi:Int):Ft:=⟨t,0,0,2,1,-1,t / 10,lo,hi,0⟩
theorem oG{w0:World}{t lo hi:Int}(ht:0<=t/\t<=1000000):Calls prog 33 #[.int .i64 t,.int .i64 lo,.int .i64 hi] w0 (bQ fun r w'=>bK w0 w'/\r=vF (IC t lo hi)):=by
 apply C5
 unfold vU
 have h:=Hp.init [] w0
 refine du h fun g1 w h=>?_
 refine lX (by omega) (by omega) (by omega) (u7 (PC.cons (by rfl) (PC.cons (by rfl) (PC.cons (by rfl) (PC.cons (by rfl) (PC.cons (by rfl) (PC.cons (by rfl) (PC.cons (by rfl) PC.nil))))))) (by rfl) ?_)
 refine de h 0 rfl rfl rfl rfl fun w h=>?_
 refine mj h 0 rfl rfl ?_
 dsimp only[List.set]at h
 exact bQ.mk ⟨h.ext,rfl⟩
abbrev I3:=Int×Int×Int
abbrev fT(a:I3):List Value:=[.int .i64 a.1,.int .i64 a.2.1,.int .i64 a.2.2]
def E6(l:List I3):Prop:=∀ a∈l,eS a.1/\eS a.2.1/\eS a.2.2
theorem kC{a b:Int}(h:eS a)(hb:0 < b:=by decide):eS (a.tdiv b):=Cr h.1 h.2 hb
def mkF(i:Nat)(a:I3):Ft:=⟨i,0,0,cQ (a.1.tdiv 2) 2,cQ a.1 2,-1,(i:Int) / 10,cQ a.2.1 60,cQ a.2.1 60+cQ a.2.2 3 * cQ (a.2.2.tdiv 3) 10,0⟩
def q8(l:List I3)(n:Nat):List Ft:=(l.take n).mapIdx mkF
theorem Hy{l:List I3}{i:Nat}{a:I3}(h:l[i]?=some a):q8 l (i+1)=q8 l i++[mkF i a]:=by
 unfold q8
 have hl:=(List.getElem?_eq_some_iff.1 h).1
 rw[List.take_add_one,h,List.mapIdx_append,List.length_take,show min i l.length=i by omega]
 simp
theorem yT(l:List I3)(n:Nat):(q8 l n).length<=n:=by
 unfold q8;rw[List.length_mapIdx,List.length_take];omega
theorem yU{l:List I3}{n i:Nat}{f:Ft}(h:(q8 l n)[i]?=some f):i < n/\∃ a,l[i]?=some a/\f=mkF i a:=by
 unfold q8 at h
 rw[List.getElem?_mapIdx]at h
 obtain⟨a,ha,rfl⟩:=Option.map_eq_some_iff.1 h
 rw[List.getElem?_take]at ha
 split at ha
 ·exact⟨by assumption,a,ha,rfl⟩
 ·cases ha
theorem NN{i:Nat}(h:i<=999)(a:I3):VF (mkF i a):=by
 have h1:=dQ (c:=a.1.tdiv 2) (n:=2) (by decide)
 have h2:=dQ (c:=a.1) (n:=2) (by decide)
 have h3:=dQ (c:=a.2.1) (n:=60) (by decide)
 have h4:=dQ (c:=a.2.2) (n:=3) (by decide)
 have h5:=dQ (c:=a.2.2.tdiv 3) (n:=10) (by decide)
 have h6:=Int.mul_nonneg h4.1 h5.1
 have h7:cQ a.2.2 3 * cQ (a.2.2.tdiv 3) 10<=2 * 9:=Int.mul_le_mul (by omega) (by omega) h5.1 (by omega)
 unfold VF mkF
 dsimp only
 omega
theorem VF.fi{f:Ft}(h:VF f):FI f:=by
 obtain⟨h1,h2,h3,h4,h5,h6,h7,h8,h9,h10⟩:=h
 exact⟨by omega,by omega,by omega,by omega,by omega,by omega,by omega,by omega,by omega,by omega⟩
theorem IE(l:List I3){n:Nat}(hn:n<=400):tC (q8 l n):=by
 refine⟨by have:=yT l n;omega,fun f hf=>?_,fun i a b ha hb=>?_⟩
 ·obtain⟨i,hi⟩:=List.getElem?_of_mem hf
  obtain⟨h1,a,_,rfl⟩:=yU hi
  exact NN (by omega) a
 ·obtain⟨h1,x,_,rfl⟩:=yU ha
  obtain⟨h2,y,_,rfl⟩:=yU hb
  exact .inl (show((i:Nat):Int) < ((i+1:Nat):Int) by omega)
set_option maxHeartbeats 8000000 in
theorem Lh{w0:World}{v:Value}{l:List I3}(hv:dJ w0 3 v l.length (l.flatMap fT))(hok:E6 l)(hl:l.length<=9223372036854775807):
 Calls prog 37 #[.int .i64 0,v] w0 (bQ fun r w'=>Hp [] w0 w' [ro 65 10 r (q8 l 30).length ((q8 l 30).flatMap fF)]):=by
 apply Bg
 unfold uk
 have h:=Hp.init [] w0
 have h:=h.nil 65 10
 refine uN.mk (fun a b W=>∃(i:Nat),i<=l.length/\i<=30/\b=.int .i64 i/\Hp [] w0 W [ro 65 10 a (q8 l i).length ((q8 l i).flatMap fF)])
  (fun _ b _=>match b with | .int _ x=>l.length - x.toNat | _=>0) ⟨0,by omega,by omega,rfl,h⟩ ?_
 clear h
 rintro a _ W ⟨i,hi,hi3,rfl,h⟩
 have hfl:=yT l i
 by_cases hin:i < l.length
 rotate_left
 ·have e:q8 l i=q8 l 30:=by unfold q8;rw[List.take_of_length_le (by omega),List.take_of_length_le (by omega)]
  rw[e]at h
  refine gS (hv.hp h) ?_
  refine cD (by omega) (aK (aK (aw (aK (aK (aK (aK (aw (cf ?_)))))))))
  exact bQ.mk h
 by_cases hi30:i < 30
 rotate_left
 ·have e:i=30:=by omega
  rw[e]at h
  refine gS (hv.hp h) ?_
  refine cy (by omega) (aP (aP (cD (by omega) (aQ (aK (aK (aK (aK (aw (cf ?_))))))))))
  exact bQ.mk h
 refine Exists.elim (p:=fun x=>l[i]?=some x) ⟨_,List.getElem?_eq_getElem hin⟩ fun x hx=>?_
 have sf:iY (l.flatMap fT) (i * 3) (fT x):=cZ (f:=fT) (fun _=>rfl) hx
 have hxo:=hok x (List.mem_of_getElem? hx)
 have x1:=hxo.1
 have x2:=hxo.2.1
 have x3:=hxo.2.2
 have cc1:=fun {W:World} (_:bK w0 W)=>ju (w:=W) (n:=2) x1 (by decide)
 have cc2:=fun {W:World} (_:bK w0 W)=>ju (w:=W) (c:=x.1.tdiv 2) (n:=2) (kC x1) (by decide)
 have cc3:=fun {W:World} (_:bK w0 W)=>ju (w:=W) (n:=60) x2 (by decide)
 have cc4:=fun {W:World} (_:bK w0 W)=>ju (w:=W) (n:=3) x3 (by decide)
 have cc5:=fun {W:World} (_:bK w0 W)=>ju (w:=W) (c:=x.2.2.tdiv 3) (n:=10) (kC x3) (by decide)
 have h3:=dQ (c:=x.2.1) (n:=60) (by decide)
 have h4:=dQ (c:=x.2.2) (n:=3) (by decide)
 have h5:=dQ (c:=x.2.2.tdiv 3) (n:=10) (by decide)
 have h6:=Int.mul_nonneg h4.1 h5.1
 have h7:cQ x.2.2 3 * cQ (x.2.2.tdiv 3) 10<=2 * 9:=Int.mul_le_mul (by omega) (by omega) h5.1 (by omega)
 refine gS (hv.hp h) ?_
 refine cy (by omega) (aP (aP (cy (by omega) (aQ (aP (aP (aP (cF (by omega) (by omega) (aP (fp (by omega) (aQ (co ?_))))))))))))
 refine mE.lfb 65 [.int .i64 (0+(i:Int)),.int .i64 0,.int .i64 0,.int .i64 (cQ (x.1.tdiv 2) 2),.int .i64 (cQ x.1 2),.int .i64 (-1),.int .i64 0,.int .i64 (cQ x.2.1 60),.int .i64 0,.int .i64 0] h (fun K lf1=>?_) (fun gx w h=>?_)
 ·replace h:=h.dr
  refine Kz (by omega) (by omega) (nT h ‹_› (by omega) fun zb zo zk zv zc=>?_)
  refine Nj (by decide) (by decide) ?_
  refine pT h ‹_› ‹_› (by rfl) ?_
  refine nT h ‹_› (by omega) fun zb zo zk zv zc=>?_
  refine Nj (by decide) (by decide) ?_
  refine pT h ‹_› ‹_› (by rfl) ?_
  refine zF (by omega) (by omega) (by omega) (nT h ‹_› (by omega) fun zb zo zk zv zc=>?_)
  refine Nj (by decide) (by decide) ?_
  refine pT h ‹_› ‹_› (by rfl) ?_
  refine⟨?_,?_⟩
  refine ce h cK (cc1 h.ext) fun w h=>?_
  refine BI h ‹_› ‹_› (by rfl) ?_
  refine BI h ‹_› ‹_› (by rfl) ?_
  refine⟨?_,?_⟩
  refine ce h cK (cc2 h.ext) fun w h=>?_
  refine BI h ‹_› ‹_› (by rfl) ?_
  refine⟨?_,?_⟩
  refine ce h cK (cc3 h.ext) fun w h=>?_
  refine nS (PC.cons (by rfl) (PC.cons (by rfl) (PC.cons (by rfl) (PC.cons (by rfl) (PC.cons (by rfl) PC.nil))))) (by rfl) ?_
  refine du h fun g1 w h=>?_
  refine BI h ‹_› ‹_› (by rfl) ?_
  refine BI h ‹_› ‹_› (by rfl) ?_
  refine BI h ‹_› ‹_› (by rfl) ?_
  refine de h 0 rfl rfl rfl rfl fun w h=>?_
  exact lf1 _ _ h
  refine du h fun g1 w h=>?_
  refine BI h ‹_› ‹_› (by rfl) ?_
  refine BI h ‹_› ‹_› (by rfl) ?_
  refine BI h ‹_› ‹_› (by rfl) ?_
  refine ce h cK (cc3 h.ext) fun w h=>?_
  refine nS (PC.cons (by rfl) (PC.cons (by rfl) (PC.cons (by rfl) (PC.cons (by rfl) (PC.cons (by rfl) PC.nil))))) (by rfl) ?_
  refine de h 0 rfl rfl rfl rfl fun w h=>?_
  exact lf1 _ _ h
  refine du h fun g1 w h=>?_
  refine BI h ‹_› ‹_› (by rfl) ?_
  refine BI h ‹_› ‹_› (by rfl) ?_
  refine BI h ‹_› ‹_› (by rfl) ?_
  refine ce h cK (cc2 h.ext) fun w h=>?_
  refine BI h ‹_› ‹_› (by rfl) ?_
  refine ce h cK (cc3 h.ext) fun w h=>?_
  refine nS (PC.cons (by rfl) (PC.cons (by rfl) (PC.cons (by rfl) (PC.cons (by rfl) (PC.cons (by rfl) PC.nil))))) (by rfl) ?_
  refine de h 0 rfl rfl rfl rfl fun w h=>?_
  exact lf1 _ _ h
  refine du h fun g1 w h=>?_
  refine BI h ‹_› ‹_› (by rfl) ?_
  refine BI h ‹_› ‹_› (by rfl) ?_
  refine BI h ‹_› ‹_› (by rfl) ?_
  refine ce h cK (cc1 h.ext) fun w h=>?_
  refine BI h ‹_› ‹_› (by rfl) ?_
  refine BI h ‹_› ‹_› (by rfl) ?_
  refine ce h cK (cc2 h.ext) fun w h=>?_
  refine BI h ‹_› ‹_› (by rfl) ?_
  refine ce h cK (cc3 h.ext) fun w h=>?_
  refine nS (PC.cons (by rfl) (PC.cons (by rfl) (PC.cons (by rfl) (PC.cons (by rfl) (PC.cons (by rfl) PC.nil))))) (by rfl) ?_
  refine de h 0 rfl rfl rfl rfl fun w h=>?_
  exact lf1 _ _ h
 clear cc1 cc2 cc3
 replace h:=h.dr
 refine di (iX h 0 rfl rfl (nT h ‹_› (by omega) fun zb zo zk zv zc=>?_))
 refine Nj (by decide) (by decide) ?_
 refine pT h ‹_› ‹_› (by rfl) ?_
 refine nT h ‹_› (by omega) fun zb zo zk zv zc=>?_
 refine Nj (by decide) (by decide) ?_
 refine pT h ‹_› ‹_› (by rfl) ?_
 refine zF (by omega) (by omega) (by omega) (ce h cK (cc4 h.ext) fun w h=>?_)
 refine fU h 0 rfl rfl (BI h ‹_› ‹_› (by rfl) ?_)
 refine ce h cK (cc5 h.ext) fun w h=>?_
 refine fU h 0 rfl rfl (RN (by omega) (by omega) (Kz (by omega) (by omega) (di (tl h 0 rfl rfl rfl rfl fun w h=>?_))))
 refine ck (Eng.ld1 h 0 rfl rfl (lX (by omega) (by omega) (by omega) (ck (tl h 0 rfl rfl rfl rfl fun w h=>?_))))
 refine dy h 0 rfl rfl ?_
 refine lA h (by rfl) (by decide) (by rfl) (by decide) fun v1 w h=>?_
 refine kq (by rfl) (by decide) h 2 rfl (qZ 0 h rfl) (by first | rfl | assumption) (by omega) fun v2 w h=>?_
 refine cF (by omega) (by omega) ?_
 dsimp only[List.set]at h
 refine⟨⟨i+1,by omega,by omega,rfl,?_⟩,by show l.length - ((i:Int)+1).toNat < l.length - (i:Int).toNat;omega⟩
 have h:=h.drop 2
 rw[Hy hx,List.length_append,List.flatMap_append]
 have e:(0:Int)+i=i:=by omega
 rw[e]at h
 exact h
abbrev I6:=Fin 6->Int
def NO(k:Int):Int:=if k=0 then 2 else if k=1 then 3 else if k=2 then 4 else if k=3 then 5 else if k=4 then 10 else 20
def B5(x:I6):Int:=2+cQ (x 2) 3
def Li(x:I6):Rat:=((1:Int):Rat) / ((B5 x:Int):Rat)
def Qf(x:I6):Rat:=((1:Int):Rat) / ((NO (cQ (x 3) 6):Int):Rat)
def Gn(x:I6):Rat:=((cQ (x 4) (2 * B5 x+1):Int):Rat) / ((2:Int):Rat)
def AL(x:I6):Int:=if cQ (x 5) 6=0 then cQ ((x 5).tdiv 6) 12 else -1
def tA(x:I6):WR:=⟨cQ (x 0) 2,cQ ((x 0).tdiv 2) 2,cQ (x 1) 40,tx (Li x),tx (Qf x),tx (Gn x),AL x,0,0,([],[]),false⟩
def vX(x:I6):Value:=.agg #[.int .i64 (x 0),.int .i64 (x 1),.int .i64 (x 2),.int .i64 (x 3),.int .i64 (x 4),.int .i64 (x 5)]
theorem IG(k:Int):2<=NO k/\NO k<=20:=by unfold NO;repeat' split <;> omega
theorem Lj{xs:List Value}{k:Nat}{v:Value}(h:xs[k * 1]?=some v):iY xs (k * 1) [v]:=fun j u hj=>by
 have h1:=(List.getElem?_eq_some_iff.1 hj).1
 have:j=0:=by simpa using h1
 subst this
 cases hj
 exact h
set_option maxHeartbeats 8000000 in
theorem Gp{w0:World}{x:I6}(hx:∀ i,eS (x i)):Calls prog 21 #[vX x] w0 (bQ fun r w'=>bK w0 w'/\r=vW (tA x)):=by
 have x0:=hx 0
 have x1:=hx 1
 have x2:=hx 2
 have x3:=hx 3
 have x4:=hx 4
 have x5:=hx 5
 have p2:=dQ (c:=x 2) (n:=3) (by decide)
 have p3:=dQ (c:=x 3) (n:=6) (by decide)
 have p4:=dQ (c:=x 4) (n:=2 * (2+cQ (x 2) 3)+1) (by omega)
 have cc1:=fun {W:World} (_:bK w0 W)=>ju (w:=W) (n:=2) x0 (by decide)
 have cc2:=fun {W:World} (_:bK w0 W)=>ju (w:=W) (c:=(x 0).tdiv 2) (n:=2) (kC x0) (by decide)
 have cc3:=fun {W:World} (_:bK w0 W)=>ju (w:=W) (n:=40) x1 (by decide)
 have cc4:=fun {W:World} (_:bK w0 W)=>ju (w:=W) (n:=3) x2 (by decide)
 have cc5:=fun {W:World} (_:bK w0 W)=>ju (w:=W) (n:=6) x3 (by decide)
 have cc6:=fun {W:World} (_:bK w0 W)=>ju (w:=W) (n:=2 * (2+cQ (x 2) 3)+1) x4 (by omega)
 have cc7:=fun {W:World} (_:bK w0 W)=>ju (w:=W) (n:=6) x5 (by decide)
 have cc8:=fun {W:World} (_:bK w0 W)=>ju (w:=W) (c:=(x 5).tdiv 6) (n:=12) (kC x5) (by decide)
 have ccm:=fun {W:World} (_:bK w0 W)=>Cj (w:=W) (n:=1) (d:=2+cQ (x 2) 3) (by decide) (by omega) (by omega)
 have hal:=IG (cQ (x 3) 6)
 have cca:=fun {W:World} (_:bK w0 W)=>Cj (w:=W) (n:=1) (d:=NO (cQ (x 3) 6)) (by decide) (by omega) (by omega)
 have ccb:=fun {W:World} (_:bK w0 W)=>Cj (w:=W) (n:=cQ (x 4) (2 * (2+cQ (x 2) 3)+1)) (d:=2) (by omega) (by decide) (by decide)
 have e:vW (tA x)=vC (cQ (x 0) 2) (cQ ((x 0).tdiv 2) 2) (cQ (x 1) 40) (tx (((1:Int):Rat) / ((2+cQ (x 2) 3:Int):Rat))) (tx (((1:Int):Rat) / ((NO (cQ (x 3) 6):Int):Rat))) (tx (((cQ (x 4) (2 * (2+cQ (x 2) 3)+1):Int):Rat) / ((2:Int):Rat))) (AL x) 0 0 ([],[]) false:=rfl
 obtain⟨k,hk⟩:∃ k:Nat,cQ (x 3) 6=k:=⟨(cQ (x 3) 6).toNat,by omega⟩
 have hk6:k < 6:=by omega
 have sk:iY [.int .i64 2,.int .i64 3,.int .i64 4,.int .i64 5,.int .i64 10,.int .i64 20] (k * 1) [.int .i64 (NO k)]:=by
  rcases(show k=0\/k=1\/k=2\/k=3\/k=4\/k=5 by omega) with rfl | rfl | rfl | rfl | rfl | rfl <;> exact Lj rfl
 rw[hk]at cca cc5 e hal
 rw[e]
 apply Bf
 unfold uj vX
 have h:=Hp.init [] w0
 refine ep h fun g1 w h=>?_
 refine du h fun g2 w h=>?_
 refine mE.lfb gM [.int .i64 (cQ (x 0) 2),.int .i64 (cQ ((x 0).tdiv 2) 2),.int .i64 (cQ (x 1) 40),bh [],bh [],bh [],bh [],bh [],bh [],.int .i64 (-1),.int .i64 0,.int .i64 0,bh [],bh [],.bool false] h (fun K lf1=>?_) (fun gx w h=>?_)
 ·replace h:=h.dr
  refine Nj (by decide) (by decide) ?_
  refine iX h 1 rfl rfl (Nj (by decide) (by decide) ?_)
  refine iX h 1 rfl rfl (zF (by omega) (by omega) (by omega) (Nj (by decide) (by decide) ?_))
  refine iX h 1 rfl rfl ?_
  refine⟨?_,?_⟩
  refine ce h cK (cc1 h.ext) fun w h=>?_
  refine fU h 1 rfl rfl (fU h 1 rfl rfl ?_)
  refine⟨?_,?_⟩
  refine ce h cK (cc2 h.ext) fun w h=>?_
  refine fU h 1 rfl rfl ?_
  refine⟨?_,?_⟩
  refine ce h cK (cc3 h.ext) fun w h=>?_
  refine nS (PC.cons (by rfl) (PC.cons (by rfl) (PC.cons (by rfl) (PC.cons (by rfl) PC.nil)))) (by rfl) ?_
  refine du h fun g3 w h=>?_
  refine fU h 2 rfl rfl (fU h 2 rfl rfl (fU h 2 rfl rfl (de h 0 rfl rfl rfl rfl fun w h=>?_)))
  exact lf1 _ _ h
  refine du h fun g3 w h=>?_
  refine fU h 2 rfl rfl (fU h 2 rfl rfl (fU h 2 rfl rfl (ce h cK (cc3 h.ext) fun w h=>?_)))
  refine nS (PC.cons (by rfl) (PC.cons (by rfl) (PC.cons (by rfl) (PC.cons (by rfl) PC.nil)))) (by rfl) ?_
  refine de h 0 rfl rfl rfl rfl fun w h=>?_
  exact lf1 _ _ h
  refine du h fun g3 w h=>?_
  refine fU h 2 rfl rfl (fU h 2 rfl rfl (fU h 2 rfl rfl (ce h cK (cc2 h.ext) fun w h=>?_)))
  refine fU h 2 rfl rfl (ce h cK (cc3 h.ext) fun w h=>?_)
  refine nS (PC.cons (by rfl) (PC.cons (by rfl) (PC.cons (by rfl) (PC.cons (by rfl) PC.nil)))) (by rfl) ?_
  refine de h 0 rfl rfl rfl rfl fun w h=>?_
  exact lf1 _ _ h
  refine du h fun g3 w h=>?_
  refine fU h 2 rfl rfl (fU h 2 rfl rfl (fU h 2 rfl rfl (ce h cK (cc1 h.ext) fun w h=>?_)))
  refine fU h 2 rfl rfl (fU h 2 rfl rfl (ce h cK (cc2 h.ext) fun w h=>?_))
  refine fU h 2 rfl rfl (ce h cK (cc3 h.ext) fun w h=>?_)
  refine nS (PC.cons (by rfl) (PC.cons (by rfl) (PC.cons (by rfl) (PC.cons (by rfl) PC.nil)))) (by rfl) ?_
  refine de h 0 rfl rfl rfl rfl fun w h=>?_
  exact lf1 _ _ h
 clear cc1 cc2 cc3
 by_cases h6:cQ (x 5) 6=0
 ·have es:AL x=cQ ((x 5).tdiv 6) 12:=by unfold AL;rw[if_pos h6]
  rw[es]
  refine LX (by decide) (by decide) ?_
  refine Eng.ld1 h 2 rfl rfl (ce h cK (cc4 h.ext) fun w h=>?_)
  refine cF (by omega) (by omega) (ce h cq (ccm h.ext) fun w h=>?_)
  refine ck (de h 0 rfl rfl rfl rfl fun w h=>?_)
  refine AH (vs:=[_,_,_,_,_,_]) h (.cons (by rfl) (by rfl) (.cons (by rfl) (by rfl) (.cons (by rfl) (by rfl) (.cons (by rfl) (by rfl) (.cons (by rfl) (by rfl) (.cons (by rfl) (by rfl) .nil)))))) (by rfl) (by rfl) (by decide) (by decide) (by decide) fun v1 w h=>?_
  refine LX (by decide) (by decide) ?_
  refine Eng.ld1 h 3 rfl rfl (ce h cK (cc5 h.ext) fun w h=>?_)
  refine SO h 0 rfl (by omega) fun zg zk zv=>?_
  refine SU h 0 rfl ‹_› sk (by rfl) ?_
  refine ce h cq (cca h.ext) fun w h=>?_
  refine ck (de h 1 rfl rfl rfl rfl fun w h=>?_)
  refine LX (by decide) (by decide) ?_
  refine Eng.ld1 h 3 rfl rfl (BT (by omega) (by omega) (cF (by omega) (by omega) (ce h cK (cc6 h.ext) fun w h=>?_)))
  refine ce h cq (ccb h.ext) fun w h=>?_
  refine ck (de h 1 rfl rfl rfl rfl fun w h=>?_)
  refine LX (by decide) (by decide) ?_
  refine Eng.ld1 h 3 rfl rfl (ce h cK (cc7 h.ext) fun w h=>?_)
  refine ea (by omega) (co (LX (by decide) (by decide) ?_))
  refine Eng.ld1 h 3 rfl rfl (Jz (by omega) (by omega) (by omega) (ce h cK (cc8 h.ext) fun w h=>?_))
  refine ck (tl h 1 rfl rfl rfl rfl fun w h=>?_)
  dsimp only[List.set]at h
  refine dy h 1 rfl rfl ?_
  refine de h 2 rfl rfl rfl rfl fun w h=>?_
  refine mj h 2 rfl rfl ?_
  dsimp only[List.set]at h
  exact bQ.mk ⟨h.ext,rfl⟩
 ·have es:AL x= -1:=by unfold AL;rw[if_neg h6]
  rw[es]
  refine LX (by decide) (by decide) ?_
  refine Eng.ld1 h 2 rfl rfl (ce h cK (cc4 h.ext) fun w h=>?_)
  refine cF (by omega) (by omega) (ce h cq (ccm h.ext) fun w h=>?_)
  refine ck (de h 0 rfl rfl rfl rfl fun w h=>?_)
  refine AH (vs:=[_,_,_,_,_,_]) h (.cons (by rfl) (by rfl) (.cons (by rfl) (by rfl) (.cons (by rfl) (by rfl) (.cons (by rfl) (by rfl) (.cons (by rfl) (by rfl) (.cons (by rfl) (by rfl) .nil)))))) (by rfl) (by rfl) (by decide) (by decide) (by decide) fun v1 w h=>?_
  refine LX (by decide) (by decide) ?_
  refine Eng.ld1 h 3 rfl rfl (ce h cK (cc5 h.ext) fun w h=>?_)
  refine SO h 0 rfl (by omega) fun zg zk zv=>?_
  refine SU h 0 rfl ‹_› sk (by rfl) ?_
  refine ce h cq (cca h.ext) fun w h=>?_
  refine ck (de h 1 rfl rfl rfl rfl fun w h=>?_)
  refine LX (by decide) (by decide) ?_
  refine Eng.ld1 h 3 rfl rfl (BT (by omega) (by omega) (cF (by omega) (by omega) (ce h cK (cc6 h.ext) fun w h=>?_)))
  refine ce h cq (ccb h.ext) fun w h=>?_
  refine ck (de h 1 rfl rfl rfl rfl fun w h=>?_)
  refine LX (by decide) (by decide) ?_
  refine Eng.ld1 h 3 rfl rfl (ce h cK (cc7 h.ext) fun w h=>?_)
  refine io (by omega) (cf (dy h 1 rfl rfl ?_))
  refine de h 2 rfl rfl rfl rfl fun w h=>?_
  dsimp only[List.set]at h
  refine mj h 2 rfl rfl ?_
  exact bQ.mk ⟨h.ext,rfl⟩
end Go.Proofs.YtnkmbjedcjcccaaGreatDoor
namespace Go.Proofs.YtnkmbjedcjcccaaGreatDoor
open Tryz
open Go Go.Eng Go.Proofs Go.Num Go.RowKit
open Go.Alm (Ft Wt Sm VW VA dn gO obs obs1 dD obsN fresh fL)
set_option maxRecDepth 100000
structure Reg(w:Wt):Prop where
 op:0<=w.op/\w.op<=11
 ve:0<=w.ve/\w.ve<=9
 lim:0<=w.lim/\w.lim<=4398046511104
 st: -1<=w.st/\w.st<=999
 mu:Sm 1 w.mu
 al:Sm 1 w.al
 bet:Sm 1000 w.bet
 mu0:w.mu≠0
 mu1:w.mu≠1
 al0:w.al≠0
 bm:w.bet * w.mu<=1
abbrev Ll(w:Wt):WR:=⟨w.op,w.ve,w.lim,tx w.mu,tx w.al,tx w.bet,w.st,0,0,([],[]),false⟩
theorem NP:tx 1=([49],[49]):=by decide+kernel
theorem yV(ws:List Wt)(w:Wt):nw (ws.map wr) (Ll w)=wr (fresh ws w):=by
 have e1:wI w.st (ws.map wr)=ws.foldl (fun s v=>max s v.th) w.st:=by
  unfold wI;rw[List.foldl_map]
 have e2:((tx w.al).1 == [49] && (tx w.al).2 == [49])=decide (w.al=1):=by
  by_cases h:w.al=1
  ·rw[h,NP];decide
  ·rw[decide_eq_false h]
   cases hc:((tx w.al).1 == [49] && (tx w.al).2 == [49])
   ·rfl
   ·rw[Bool.and_eq_true,beq_iff_eq,beq_iff_eq]at hc
    exact absurd (eZ (show tx w.al=tx 1 by rw[NP];exact Prod.ext hc.1 hc.2)) h
 unfold nw
 show WR.mk w.op w.ve w.lim (tx w.mu) (tx w.al) (tx w.bet) (wI w.st (ws.map wr)) (wI w.st (ws.map wr)) 0 ([49],[49]) ((tx w.al).1 == [49] && (tx w.al).2 == [49])=wr (fresh ws w)
 rw[e1,e2]
 show _=WR.mk w.op w.ve w.lim (tx w.mu) (tx w.al) (tx w.bet) (ws.foldl (fun s v=>max s v.th) w.st) (ws.foldl (fun s v=>max s v.th) w.st) 0 (tx 1) (decide (w.al=1))
 rw[NP]
theorem IH{ws:List Wt}{w:Wt}(h:Reg w)(hw:∀ v∈ws,v.th<=999):VW 0 (fresh ws w):=by
 obtain⟨h1,h2,h3⟩:=Alm.MO ws w.st
 have hs:=h.st
 have h4:ws.foldl (fun s v=>max s v.th) w.st<=999:=by
  rcases h3 with h3 | ⟨v,hv,h3⟩
  ·omega
  ·rw[h3];exact hw v hv
 refine⟨h.op,h.ve,h.lim,⟨by show -1<=ws.foldl (fun s v=>max s v.th) w.st;omega,h4⟩,⟨Int.le_refl _,h4⟩,⟨Int.le_refl _,Int.le_refl _⟩,h.mu,h.al,h.bet,h.mu0,h.mu1,h.al0,by show(0:Rat)<=1;decide,by show(1:Rat)<=_;decide+kernel,by show(1:Rat).den ∣ _;exact⟨_,(Nat.one_mul _).symm⟩,h.bm,?_⟩
 have a1:w.al<=1:=by have:=h.al.le;exact_mod_cast this
 show decide (w.al=1)=decide ((1:Rat)<=1 * w.al)
 rw[Rat.one_mul]
 by_cases c:w.al=1
 ·rw[decide_eq_true c,decide_eq_true (by rw[c];decide)]
 ·rw[decide_eq_false c,decide_eq_false fun h=>c (Rat.le_antisymm a1 h)]
theorem Sm.divq{k n d:Int}(h0:0<=n)(hk:n<=k * d)(hd:0 < d/\d<=1000):Sm k ((n:Rat) / (d:Rat)):=by
 have hd0:(0:Rat) < (d:Rat):=by exact_mod_cast hd.1
 have hn0:(0:Rat)<=(n:Rat):=by exact_mod_cast h0
 have hm:(n:Rat) / (d:Rat) * (d:Rat)=(n:Rat):=by
  have:=Rat.div_def (n:Rat) (d:Rat)
  have h2:=Rat.mul_inv_cancel (d:Rat) (by grind)
  grind
 refine⟨?_,?_,?_⟩
 ·refine Rat.le_of_mul_le_mul_right (c:=(d:Rat)) ?_ hd0
  rw[hm];grind
 ·refine Rat.le_of_mul_le_mul_right (c:=(d:Rat)) ?_ hd0
  rw[hm]
  exact_mod_cast hk
 ·rw[<-Rat.divInt_eq_div,Rat.den_divInt,if_neg (by omega)]
  have:=Nat.div_le_self d.natAbs (Int.gcd d n)
  omega
theorem MZ{n d:Int}(hn:0 < n)(hd:0 < d):(n:Rat) / (d:Rat)≠0:=by
 have hd0:(0:Rat) < (d:Rat):=by exact_mod_cast hd
 have hn0:(0:Rat) < (n:Rat):=by exact_mod_cast hn
 intro h
 have:=Rat.div_def (n:Rat) (d:Rat)
 have h2:=Rat.mul_inv_cancel (d:Rat) (by grind)
 grind
theorem Qg{n d:Int}(hd:0 < d)(h:n≠d):(n:Rat) / (d:Rat)≠1:=by
 have hd0:(0:Rat) < (d:Rat):=by exact_mod_cast hd
 intro hc
 have:=Rat.div_def (n:Rat) (d:Rat)
 have h2:=Rat.mul_inv_cancel (d:Rat) (by grind)
 have:(n:Rat)=(d:Rat):=by grind
 exact h (by exact_mod_cast this)
def NQ(x:I6):Wt:=⟨cQ (x 0) 2,cQ ((x 0).tdiv 2) 2,cQ (x 1) 40,Li x,Qf x,Gn x,AL x,0,0,0,false⟩
theorem Lm(x:I6):tA x=Ll (NQ x):=rfl
theorem B6(x:I6):Reg (NQ x):=by
 have h0:=dQ (c:=x 0) (n:=2) (by decide)
 have h1:=dQ (c:=(x 0).tdiv 2) (n:=2) (by decide)
 have h2:=dQ (c:=x 1) (n:=40) (by decide)
 have h3:=dQ (c:=x 2) (n:=3) (by decide)
 have h4:=IG (cQ (x 3) 6)
 have hm:2<=B5 x/\B5 x<=4:=by unfold B5;omega
 have h5:=dQ (c:=x 4) (n:=2 * B5 x+1) (by omega)
 have h6:=dQ (c:=(x 5).tdiv 6) (n:=12) (by decide)
 refine⟨by show 0<=cQ (x 0) 2/\cQ (x 0) 2<=11;omega,by show 0<=cQ ((x 0).tdiv 2) 2/\cQ ((x 0).tdiv 2) 2<=9;omega,by show 0<=cQ (x 1) 40/\cQ (x 1) 40<=4398046511104;omega,?_,Sm.divq (by decide) (by omega) (by omega),Sm.divq (by decide) (by omega) (by omega),Sm.divq (by omega) (by omega) (by omega),MZ (by decide) (by omega),Qg (by omega) (by omega),MZ (by decide) (by omega),?_⟩
 ·show -1<=AL x/\AL x<=999
  unfold AL
  split <;> omega
 ·show Gn x * Li x<=1
  unfold Gn Li
  have hd0:(0:Rat) < ((B5 x:Int):Rat):=by exact_mod_cast (show 0 < B5 x by omega)
  have hb:((cQ (x 4) (2 * B5 x+1):Int):Rat)<=((2 * B5 x:Int):Rat):=by exact_mod_cast (show cQ (x 4) (2 * B5 x+1)<=2 * B5 x by omega)
  have e1:=Rat.div_def (((1:Int)):Rat) ((B5 x:Int):Rat)
  have e2:=Rat.mul_inv_cancel ((B5 x:Int):Rat) (by grind)
  refine Rat.le_of_mul_le_mul_right (c:=((B5 x:Int):Rat)) ?_ hd0
  have e3:((cQ (x 4) (2 * B5 x+1):Int):Rat) / ((2:Int):Rat) * (((1:Int):Rat) / ((B5 x:Int):Rat)) * ((B5 x:Int):Rat)=((cQ (x 4) (2 * B5 x+1):Int):Rat) / ((2:Int):Rat):=by grind
  rw[e3]
  rw[Rat.intCast_mul]at hb
  grind
structure VB(n:Int)(B:Rat)(ws:List Wt):Prop where
 b:Sm 1 B
 len:ws.length<=12
 ok:∀ w∈ws,VW n w
 sp:fL Alm.al ws<=B
theorem VB.va{n:Int}{B:Rat}{ws:List Wt}(h:VB n B ws)(hn:n<=1000000):VA B ws:=⟨h.b,h.len,fun w hw=>(h.ok w hw).mono hn,h.sp⟩
theorem VB.mono{n m:Int}{B:Rat}{ws:List Wt}(h:VB n B ws)(hn:n<=m):VB m B ws:=⟨h.b,h.len,fun w hw=>(h.ok w hw).mono hn,h.sp⟩
theorem Gq(l:List Ft):∀ ws:List Wt,fL Alm.al (obs ws l)=fL Alm.al ws
 | []=>rfl
 | w::ws=>by
  show(obs1 w.th w l).al+fL Alm.al (obs ws l)=w.al+fL Alm.al ws
  rw[Gq l ws,(Alm.sX w w.th l).1]
theorem VB.obs{n:Int}{B:Rat}{ws:List Wt}(h:VB n B ws){l:List Ft}(hl:tC l):VB (n+l.length) B (obs ws l):=by
 refine⟨h.b,by rw[Alm.qB];exact h.len,fun w hw=>?_,by rw[Gq];exact h.sp⟩
 obtain⟨v,hv,rfl⟩:=List.mem_map.1 hw
 exact VW.obs1 v.th (h.ok v hv) fun f hf=>(hl.2.1 f hf).1.2
def II(B:Rat)(ws:List Wt)(w:Wt):Prop:=ws.length+1<=12/\fL Alm.al ws+w.al<=B
theorem Dq(ws:List Wt)(w:Wt):fL Alm.al (ws++[w])=fL Alm.al ws+w.al:=by
 rw[Alm.xU]
 show _+(w.al+0)=_
 grind
theorem VB.reg{n:Int}{B:Rat}{ws:List Wt}{w:Wt}(h:VB n B ws)(hw:Reg w)(hn:0<=n)(hc:II B ws w):VB n B (ws++[fresh ws w]):=by
 refine⟨h.b,by rw[List.length_append];exact hc.1,fun v hv=>?_,by rw[Dq];exact hc.2⟩
 rcases List.mem_append.1 hv with hv | hv
 ·exact h.ok v hv
 ·rw[List.mem_singleton.1 hv]
  exact(IH hw fun v hv=>(h.ok v hv).th.2).mono hn
theorem NR{B:Rat}{ws:List Wt}{w:Wt}(h:VA B (ws++[fresh ws w])):II B ws w:=⟨by have:=h.len;rw[List.length_append]at this;exact this,by have:=h.sp;rw[Dq]at this;exact this⟩
theorem IJ{w:Wt}(h:Reg w):WRk (Ll w):=by
 have h1:=h.op
 have h2:=h.ve
 have h3:=h.lim
 have h4:=h.st
 have a:=Sm.rb h.mu (.inl rfl)
 have b:=Sm.rb h.al (.inl rfl)
 have c:=Sm.rb h.bet (.inr rfl)
 exact⟨by show eS w.op;omega,by show eS w.ve;omega,by show eS w.lim;omega,⟨cv a.n,cv a.d⟩,⟨cv b.n,cv b.d⟩,⟨cv c.n,cv c.d⟩,by show eS w.st;omega,by show eS 0;decide,by show eS 0;decide,⟨Nat.zero_le _,Nat.zero_le _⟩⟩
theorem VB.ak{n:Int}{B:Rat}{ws:List Wt}(h:VB n B ws)(hn:n<=1000000000){w:World}{v:Value}(hv:dJ w 15 v ws.length ((ws.map wr).flatMap fW)):Ak w (tx B) v (ws.map wr):=by
 have hb:=Sm.rb h.b (.inl rfl)
 have hl:=h.len
 refine⟨⟨cv hb.n,cv hb.d⟩,by rw[List.length_map];exact hv,fun r hr=>?_,by rw[List.length_map];omega⟩
 obtain⟨v,hv,rfl⟩:=List.mem_map.1 hr
 exact Cx (h.ok v hv) hn
section
variable{w0:World}{n:Int}{B:Rat}{ws:List Wt}{v:Value}{w:Wt}(hE:En w0)(hB:VB n B ws)(hn:0<=n/\n<=1000000)(hv:dJ w0 15 v ws.length ((ws.map wr).flatMap fW))(hw:Reg w)
include hB hn hv hw
theorem NS(hE:En w0)(hc:II B ws w):Calls prog 22 #[vA (tx B) v,vW (Ll w)] w0 (bQ fun o w'=>∃ u,o=.tuple #[vA (tx B) u,.int .i64 0]/\Hp [] w0 w' [ro gM 15 u (ws++[fresh ws w]).length (((ws++[fresh ws w]).map wr).flatMap fW)]):=by
 have h1:uI (tx B) (ws.map wr):=⟨B,ws,rfl,rfl,hB.va hn.2⟩
 have e:wu (tx B) (ws.map wr++[nw (ws.map wr) (Ll w)])=true:=by
  rw[yV]
  exact mC ⟨B,ws++[fresh ws w],rfl,by rw[List.map_append];rfl,(hB.reg hw hn.1 hc).va hn.2⟩
 refine(nA hE (hB.ak (by omega) hv) (IJ hw)).mono fun en W h=>?_
 obtain⟨o,rfl,h⟩:=h
 rcases h with ⟨h,_⟩ | ⟨_,u,rfl,h⟩
 ·exact absurd h1 h
 ·refine⟨_,rfl,u,by rw[e];rfl,?_⟩
  rw[yV,List.length_map]at h
  rw[List.length_append,List.map_append]
  exact h
theorem IK(hE:En w0)(hc:¬II B ws w):Calls prog 22 #[vA (tx B) v,vW (Ll w)] w0 (bQ fun o w'=>bK w0 w'/\o=.tuple #[vA ([],[]) (.slice none 0 0),.int .i64 280]):=by
 have h1:uI (tx B) (ws.map wr):=⟨B,ws,rfl,rfl,hB.va hn.2⟩
 have e:wu (tx B) (ws.map wr++[nw (ws.map wr) (Ll w)])=false:=by
  rw[yV]
  refine kE fun⟨B',ws',e1,e2,h⟩=>hc ?_
  obtain rfl:=eZ e1
  rw[show ws.map wr++[wr (fresh ws w)]=(ws++[fresh ws w]).map wr by rw[List.map_append];rfl]at e2
  obtain rfl:=tj e2
  exact NR h
 refine(nA hE (hB.ak (by omega) hv) (IJ hw)).mono fun en W h=>?_
 obtain⟨o,rfl,h⟩:=h
 rcases h with ⟨h,_⟩ | ⟨_,u,rfl,h⟩
 ·exact absurd h1 h
 ·exact⟨_,rfl,h.ext,by rw[e];rfl⟩
omit hw
theorem NT(hE:En w0){fv:Value}{fl:List Ft}(hF:Fk w0 fv fl)(hfl:tC fl)(hn2:n+fl.length<=1000000):Calls prog 24 #[vA (tx B) v,fv] w0
 (bQ fun o w'=>∃ u rv,o=.tuple #[vA (tx B) u,rv,.int .i64 0]/\Hp [] w0 w' [ro gM 15 u (obs ws fl).length (((obs ws fl).map wr).flatMap fW),ro 3 1 rv (dD ws (obs ws fl) 0).length ((dD ws (obs ws fl) 0).flatMap fN)]):=by
 refine(Fy hE (hB.ak (by omega) hv) hF (hB.va hn.2) hfl).mono fun en W h=>?_
 obtain⟨o,rfl,h⟩:=h
 rcases h with ⟨h,_⟩ | ⟨_,u,rv,rfl,h⟩
 ·exact absurd ((hB.obs hfl).va hn2) h
 ·exact⟨_,rfl,u,rv,rfl,by rw[Alm.qB];exact h⟩
theorem Ln(hE:En w0):Calls prog 19 #[vA (tx B) v] w0 (bQ fun r w'=>bK w0 w'/\r=.tuple #[vR (tx (B - fL Alm.al ws)),.int .i64 0]):=
 G2 (hB.ak (by omega) hv) (hB.va hn.2) hE
theorem NU(hE:En w0):Calls prog 13 #[vA (tx B) v] w0 (bQ fun r w'=>bK w0 w'/\r=.bool true):=by
 have:=kF hE (hB.ak (by omega) hv)
 rw[mC ⟨B,ws,rfl,rfl,hB.va hn.2⟩]at this
 exact this
end
abbrev Im:TypeId:=35
abbrev TW:TypeId:=41
abbrev UE:TypeId:=65
abbrev K3(v:Value)(n:Nat)(xs:List Value)(rv:Value)(m:Nat)(ys:List Value):Et:=⟨v.ownBlock.toList++rv.ownBlock.toList,fun w=>dJ w 15 v n xs/\dJ w 1 rv m ys⟩
theorem IL{B:Nat}{S:List Nat}{v rv:Value}{n m:Nat}{xs ys:List Value}{w:World}(h:dJ w 15 v n xs)(k:dJ w 1 rv m ys):(K3 v n xs rv m ys).At B S w:=
 fun w' _ hb=>⟨h.mv fun i hi hl=>hb i hl (.inl (by simp[hi])),k.mv fun i hi hl=>hb i hl (.inl (by simp[hi]))⟩
theorem Lo{w0 W w':World}{L:List Et}{v rv u rv':Value}{n m n' m':Nat}{xs ys xs' ys':List Value}(h:Hp [] w0 W (K3 v n xs rv m ys::L))(e:bK W w')(hu:dJ w' 15 u n' xs')(hr:dJ w' 1 rv' m' ys')
 (ku:∀ k,u.ownBlock=some k->k < w'.heap.size/\(v.ownBlock=some k\/W.heap.size<=k)) (kr:∀ k,rv'.ownBlock=some k->k < w'.heap.size/\(rv.ownBlock=some k\/W.heap.size<=k)):Hp [] w0 w' (K3 u n' xs' rv' m' ys'::L):=by
 have hs:=h.mo.size
 have h1:=h.x e
 have hd:Hp [] w0 w' L:=h1.drop 1
 have hnd:=List.pairwise_cons.1 h1.nd
 have hks:=h1.ks _ List.mem_cons_self
 have key:∀ k∈(K3 u n' xs' rv' m' ys').ks,k < w'.heap.size/\(k∈(K3 v n xs rv m ys).ks\/W.heap.size<=k):=fun k hk=>by
  rcases List.mem_append.1 hk with hk | hk
  ·have:=ku k (by simpa using hk)
   exact⟨this.1,this.2.imp (fun h=>by simp[h]) id⟩
  ·have:=kr k (by simpa using hk)
   exact⟨this.1,this.2.imp (fun h=>by simp[h]) id⟩
 refine hd.nw (IL hu hr) (fun k hk=>⟨(key k hk).1,?_⟩) fun x hx k hk hc=>?_
 ·rcases(key k hk).2 with h2 | h2
  ·exact(hks k h2).2
  ·exact .inl (by omega)
 ·rcases(key k hk).2 with h2 | h2
  ·exact hnd.1 x hx k h2 hc
  ·have:=(h.ks x (List.mem_cons_of_mem _ hx) k hc).1
   omega
theorem _root_.Go.Eng.Hp.own{w0 w:World}{L:List Et}(h:Hp [] w0 w L){i:Nat}{e:TypeId}{c n:Nat}{v:Value}{xs:List Value}(hi:L[i]?=some (ro e c v n xs)){P:Nat->Prop}:∀ k,v.ownBlock=some k->k < w.heap.size/\(P k\/w0.heap.size<=k):=fun k hk=>by
 have h1:=h.ks _ (List.mem_of_getElem? hi) k (by simp[hk])
 exact⟨h1.1,.inr (h1.2.resolve_right (by simp))⟩
section
variable{w0:World}{n:Int}{B:Rat}{ws:List Wt}{v:Value}{w:Wt}(hB:VB n B ws)(hn:0<=n/\n<=1000000)(hv:dJ w0 15 v ws.length ((ws.map wr).flatMap fW))(hw:Reg w)
include hB hn hv hw
theorem yW(hE:En w0)(hc:II B ws w):Calls prog 22 #[vA (tx B) v,vW (Ll w)] w0 (bQ fun o w'=>∃ a b c,o=.tuple #[vA (tx B) (.slice a b c),.int .i64 0]/\Hp [] w0 w' [ro gM 15 (.slice a b c) (ws++[fresh ws w]).length (((ws++[fresh ws w]).map wr).flatMap fW)]):=by
 refine(NS hB hn hv hw hE hc).mono fun en W h=>?_
 obtain⟨o,rfl,u,rfl,h⟩:=h
 obtain⟨a,b,c,rfl,_⟩:=(qZ 0 h rfl).key
 exact⟨_,rfl,a,b,c,rfl,h⟩
omit hw
theorem ja(hE:En w0){fv:Value}{fl:List Ft}(hF:Fk w0 fv fl)(hfl:tC fl)(hn2:n+fl.length<=1000000):Calls prog 24 #[vA (tx B) v,fv] w0
 (bQ fun o w'=>∃ a b c a' b' c',o=.tuple #[vA (tx B) (.slice a b c),.slice a' b' c',.int .i64 0]/\Hp [] w0 w' [ro gM 15 (.slice a b c) (obs ws fl).length (((obs ws fl).map wr).flatMap fW),ro 3 1 (.slice a' b' c') (dD ws (obs ws fl) 0).length ((dD ws (obs ws fl) 0).flatMap fN)]):=by
 refine(NT hB hn hv hE hF hfl hn2).mono fun en W h=>?_
 obtain⟨o,rfl,u,rv,rfl,h⟩:=h
 obtain⟨a,b,c,rfl,_⟩:=(qZ 0 h rfl).key
 obtain⟨a',b',c',rfl,_⟩:=(qZ 1 h rfl).key
 exact⟨_,rfl,a,b,c,a',b',c',rfl,h⟩
end
structure Dd where
 kind:Int
 x:I6
 many:Int
structure Ddk(d:Dd):Prop where
 kind:eS d.kind
 x:∀ i,eS (d.x i)
 many:eS d.many
abbrev vD(d:Dd):Value:=.agg #[.int .i64 d.kind,.int .i64 (d.x 0),.int .i64 (d.x 1),.int .i64 (d.x 2),.int .i64 (d.x 3),.int .i64 (d.x 4),.int .i64 (d.x 5),.int .i64 d.many]
structure St where
 ws:List Wt
 at':Nat
 rg:List Nat
abbrev M0(B:Rat)(v lv:Value)(k:Nat)(rv:Value):Value:=.agg #[bh (tx B).1,bh (tx B).2,v,lv,.int .i64 (k:Int),rv]
def u9(d:Dd)(k:Nat):Nat:=if cQ d.kind 4=1 then(cQ d.many (k+1)).toNat else k
def Io(d:Dd)(k m:Nat):Nat:=if cQ d.kind 4=1 then k else min m (k+(cQ d.many 6).toNat)
def part(fl:List Ft)(i j:Nat):List Ft:=(fl.take j).drop i
open Classical in
noncomputable def AM(B:Rat)(fl:List Ft)(d:Dd)(s:St):St:=
 if cQ d.kind 4=0 then(if II B s.ws (NQ d.x) then⟨s.ws++[fresh s.ws (NQ d.x)],s.at',s.rg⟩ else s)
 else⟨obs s.ws (part fl (u9 d s.at') (Io d s.at' fl.length)),max s.at' (Io d s.at' fl.length),s.rg++dD s.ws (obs s.ws (part fl (u9 d s.at') (Io d s.at' fl.length))) 0⟩
theorem IM{fl:List Ft}{i j k:Nat}:(part fl i j)[k]?=if i+k < j then fl[i+k]? else none:=by
 unfold part
 rw[List.getElem?_drop,List.getElem?_take]
theorem Dr{fl:List Ft}(h:tC fl)(i j:Nat):tC (part fl i j):=by
 refine⟨by unfold part;rw[List.length_drop,List.length_take];have:=h.1;omega,fun f hf=>h.2.1 f (List.mem_of_mem_take (List.mem_of_mem_drop hf)),fun k a b ha hb=>?_⟩
 rw[IM]at ha hb
 split at ha
 ·split at hb
  ·exact h.2.2 (i+k) a b ha (by rw[show i+k+1=i+(k+1) by omega];exact hb)
  ·cases hb
 ·cases ha
theorem Ds(fl:List Ft)(i j:Nat):(part fl i j).length<=fl.length:=by
 unfold part;rw[List.length_drop,List.length_take];omega
theorem NV{fl:List Ft}{i j:Nat}(h1:i<=j)(h2:j<=fl.length):(part fl i j).length=j - i:=by
 unfold part;rw[List.length_drop,List.length_take];omega
def Sy(w0:World)(B:Rat)(s:St)(v lv rv:Value)(o:Value)(w':World):Prop:=
 ∃ u rv',o=.tuple #[M0 B u lv s.at' rv',.bool true]/\bK w0 w'/\dJ w' 15 u s.ws.length ((s.ws.map wr).flatMap fW)/\dJ w' 1 rv' s.rg.length (s.rg.flatMap fN)/\
  (∀ k,u.ownBlock=some k->k < w'.heap.size/\(v.ownBlock=some k\/w0.heap.size<=k))/\(∀ k,rv'.ownBlock=some k->k < w'.heap.size/\(rv.ownBlock=some k\/w0.heap.size<=k))
section
variable{w0:World}{n:Int}{B:Rat}{s:St}{v lv rv:Value}{fl:List Ft}{d:Dd}(hE:En w0)(hB:VB n B s.ws)(hn:0<=n/\n+fl.length<=1000000)(hv:dJ w0 15 v s.ws.length ((s.ws.map wr).flatMap fW))(hr:dJ w0 1 rv s.rg.length (s.rg.flatMap fN))(hF:Fk w0 lv fl)(hfl:tC fl)(ha:s.at'<=fl.length)(hrg:s.rg.length<=1000000)(hd:Ddk d)
include hE hB hn hv hr hF hfl ha hrg hd
set_option maxHeartbeats 16000000 in
theorem Lp(hk:cQ d.kind 4=0)(hsv:∀ k,v.ownBlock=some k->k < w0.heap.size)(hsr:∀ k,rv.ownBlock=some k->k < w0.heap.size):Calls prog 11 #[M0 B v lv s.at' rv,vD d] w0 (bQ (Sy w0 B (AM B fl d s) v lv rv)):=by
 have k0:=hd.kind
 have x0:=hd.x 0
 have x1:=hd.x 1
 have x2:=hd.x 2
 have x3:=hd.x 3
 have x4:=hd.x 4
 have x5:=hd.x 5
 have km:=hd.many
 have hfll:=hfl.1
 have cc1:∀ {W:World},bK w0 W->Calls prog 27 #[.int .i64 d.kind,.int .i64 4] W (bQ fun r w'=>bK W w'/\r=.int .i64 0):=fun {W} _=>by
  have:=nX (w:=W) (n:=4) k0 (by decide)
  rw[hk]at this
  exact this
 have cc2:∀ {W:World},bK w0 W->Calls prog 21 #[.agg #[.int .i64 (d.x 0),.int .i64 (d.x 1),.int .i64 (d.x 2),.int .i64 (d.x 3),.int .i64 (d.x 4),.int .i64 (d.x 5)]] W (bQ fun r w'=>bK W w'/\r=vW (Ll (NQ d.x))):=fun {W} _=>Gp (w0:=W) hd.x
 obtain⟨va,vb,vc,rfl,_⟩:=hv.key
 obtain⟨la,lb,lc,rfl,_⟩:=hF.hv.key
 obtain⟨ra,rb,rc,rfl,_⟩:=hr.key
 have hreg:=B6 d.x
 obtain⟨wn,hwn⟩:∃ wn,NQ d.x=wn:=⟨_,rfl⟩
 rw[hwn]at cc2 hreg
 by_cases hc:II B s.ws wn
 ·have es:AM B fl d s=⟨s.ws++[fresh s.ws wn],s.at',s.rg⟩:=by unfold AM;rw[if_pos hk,hwn,if_pos hc]
  rw[es]
  apply ki
  unfold iq
  have h:=Hp.init [] w0
  refine ep h fun g1 w h=>?_
  refine ep h fun g2 w h=>?_
  refine du h fun g3 w h=>?_
  refine ck (Eng.ld1 h 1 rfl rfl (ce h ec (cc1 h.ext) fun w h=>?_))
  refine ea (by omega) (co (vt.mk fun K lf=>?_))
  have lf1:∀ {W:World} {g:Nat} {a:Option Addr} {b c:Nat},Hp [] w0 W [bx g jA [bh (tx B).1,bh (tx B).2,.slice a b c],ro gM 15 (.slice a b c) (s.ws++[fresh s.ws wn]).length (((s.ws++[fresh s.ws wn]).map wr).flatMap fW),bx g3 Im [bh [],bh [],.slice none 0 0,.slice none 0 0,.int .i64 0,.slice none 0 0],bx g2 TW [.int .i64 d.kind,.int .i64 (d.x 0),.int .i64 (d.x 1),.int .i64 (d.x 2),.int .i64 (d.x 3),.int .i64 (d.x 4),.int .i64 (d.x 5),.int .i64 d.many],bx g1 Im [bh (tx B).1,bh (tx B).2,.slice va vb vc,.slice la lb lc,.int .i64 s.at',.slice ra rb rc]]->K (pr g 0) (.int .i64 0) W:=fun {W} {g} {a} {b} {c} h=>lf _ _ W (by
   refine ea (by omega) (co (dy h 0 rfl rfl ?_))
   refine ck (de h 4 rfl rfl rfl rfl fun w h=>?_)
   refine dy h 4 rfl rfl ?_
   refine de h 2 rfl rfl rfl rfl fun w h=>?_
   refine mj h 2 rfl rfl ?_
   dsimp only[List.set]at h
   exact bQ.mk ⟨_,_,rfl,h.ext,h.sl (i:=1) rfl,hr.hp h,h.own (i:=1) rfl,fun k hk=>⟨Nat.lt_of_lt_of_le (hsr k hk) h.mo.size,.inl hk⟩⟩)
  clear lf
  replace h:=h.dr
  refine di (fu h 2 rfl rfl ?_)
  refine di (fu h 1 rfl rfl ?_)
  refine⟨?_,?_⟩
  refine ce h jU (cc2 h.ext) fun w h=>?_
  refine cP h 2 rfl rfl ?_
  refine⟨?_,?_⟩
  ·refine cu dT (yW hB (by omega) (hv.ext h.ext) hreg (hE.ext h.ext) hc) ?_
   rintro _ W1 ⟨a,b,c,rfl,h1⟩
   have h:=h.cat1 h1 dM
   clear h1
   refine uP (du h fun g4 w h=>?_)
   refine cP h 4 rfl rfl ?_
   refine cP h 3 rfl rfl ?_
   refine de h 0 rfl rfl rfl rfl fun w h=>?_
   exact lf1 h
  ·refine du h fun g4 w h=>?_
   refine cP h 3 rfl rfl ?_
   refine cP h 2 rfl rfl ?_
   refine cu dT (yW hB (by omega) (hv.ext h.ext) hreg (hE.ext h.ext) hc) ?_
   rintro _ W1 ⟨a,b,c,rfl,h1⟩
   have h:=h.cat1 h1 dM
   clear h1
   refine uP (de h 1 rfl rfl rfl rfl fun w h=>?_)
   exact lf1 (h.pick [1,0,2,3,4] (by decide) rfl)
  ·refine du h fun g4 w h=>?_
   refine cP h 3 rfl rfl ?_
   refine cP h 2 rfl rfl ?_
   refine ce h jU (cc2 h.ext) fun w h=>?_
   refine cP h 3 rfl rfl ?_
   refine cu dT (yW hB (by omega) (hv.ext h.ext) hreg (hE.ext h.ext) hc) ?_
   rintro _ W1 ⟨a,b,c,rfl,h1⟩
   have h:=h.cat1 h1 dM
   clear h1
   refine uP (de h 1 rfl rfl rfl rfl fun w h=>?_)
   exact lf1 (h.pick [1,0,2,3,4] (by decide) rfl)
 ·have es:AM B fl d s=s:=by unfold AM;rw[if_pos hk,hwn,if_neg hc]
  rw[es]
  have cc3:=fun {W:World} (e:bK w0 W)=>IK (w0:=W) hB (by omega) (hv.ext e) hreg (hE.ext e) hc
  apply ki
  unfold iq
  have h:=Hp.init [] w0
  refine ep h fun g1 w h=>?_
  refine ep h fun g2 w h=>?_
  refine du h fun g3 w h=>?_
  refine ck (Eng.ld1 h 1 rfl rfl (ce h ec (cc1 h.ext) fun w h=>?_))
  refine ea (by omega) (co ?_)
  refine vt.lfb jA [bh [],bh [],.slice none 0 0] (.int .i64 280) h (fun K lf1=>?_) (fun gx w h=>?_)
  ·replace h:=h.dr
   refine di (fu h 2 rfl rfl ?_)
   refine di (fu h 1 rfl rfl ?_)
   refine⟨?_,?_⟩
   refine ce h jU (cc2 h.ext) fun w h=>?_
   refine cP h 2 rfl rfl ?_
   refine⟨?_,?_⟩
   refine ce h dT (cc3 h.ext) fun w h=>?_
   refine uP (du h fun g4 w h=>?_)
   refine cP h 3 rfl rfl ?_
   refine cP h 2 rfl rfl ?_
   refine de h 0 rfl rfl rfl rfl fun w h=>?_
   exact lf1 _ _ h
   refine du h fun g4 w h=>?_
   refine cP h 3 rfl rfl ?_
   refine cP h 2 rfl rfl ?_
   refine ce h dT (cc3 h.ext) fun w h=>?_
   refine uP (de h 0 rfl rfl rfl rfl fun w h=>?_)
   exact lf1 _ _ h
   refine du h fun g4 w h=>?_
   refine cP h 3 rfl rfl ?_
   refine cP h 2 rfl rfl ?_
   refine ce h jU (cc2 h.ext) fun w h=>?_
   refine cP h 3 rfl rfl ?_
   refine ce h dT (cc3 h.ext) fun w h=>?_
   refine uP (de h 0 rfl rfl rfl rfl fun w h=>?_)
   exact lf1 _ _ h
  refine io (by omega) (cf (dy h 3 rfl rfl ?_))
  refine de h 1 rfl rfl rfl rfl fun w h=>?_
  refine mj h 1 rfl rfl ?_
  dsimp only[List.set]at h
  exact bQ.mk ⟨_,_,rfl,h.ext,hv.hp h,hr.hp h,fun k hk=>⟨Nat.lt_of_lt_of_le (hsv k hk) h.mo.size,.inl hk⟩,fun k hk=>⟨Nat.lt_of_lt_of_le (hsr k hk) h.mo.size,.inl hk⟩⟩
end
theorem Lq{P:Program}{t e:TypeId}{c n:Nat}{v:Value}{xs:List Value}{w:World}{k k':IntKind}{lo hi:Nat}[hs:Slt P t e c](h:dJ w c v n xs)(h1:lo<=hi)(h2:hi<=n):∃ v',(∀ W,(Instr.sliceAt t v (some (.int k (lo:Int))) (some (.int k' (hi:Int))) none).run P W=.ok v' W)/\Fo c v n xs v' (hi - lo) ((xs.drop (lo * c)).take ((hi - lo) * c)):=by
 obtain⟨a,l,m,hv,rfl,hm⟩:=h.key
 refine⟨.slice (if m=lo then a else a.map (·.add (lo * c))) (hi - lo) (m - lo),fun W=>?_,⟨by rw[hv];exact zC (l:=l),fun W hW=>hW.part h1 h2 hv⟩⟩
 subst hv
 have a1:lo<=hi:=h1
 have a2:hi<=m:=by omega
 simp[Instr.sliceAt,Instr.slice,Instr.sliceBounds,Instr.sliceBound,run_underlying hs.un,hs.sz,asIntOf,a1,a2]
theorem SA{P:Program}{t e:TypeId}{c n:Nat}{v:Value}{xs:List Value}{w:World}{k k':IntKind}{lo hi:Nat}{wi:Bool}{KP:Value->Prop}[Slt P t e c](h:dJ w c v n xs)(h1:lo<=hi)(h2:hi<=n)(hk:∀ v',Fo c v n xs v' (hi - lo) ((xs.drop (lo * c)).take ((hi - lo) * c))->KP v'):Dv P wi (Instr.sliceAt t v (some (.int k (lo:Int))) (some (.int k' (hi:Int))) none) w KP:=by
 obtain⟨v',h3,h4⟩:=Lq (P:=P) (t:=t) (k:=k) (k':=k') h h1 h2
 cases wi
 ·exact⟨_,h3 w,hk v' h4⟩
 ·exact⟨_,h3,hk v' h4⟩
theorem IO(l:List Nat):((l.flatMap fN).all fun x=>x.oneCell')=true:=by
 rw[List.all_eq_true]
 intro x hx
 obtain⟨k,_,hk⟩:=List.mem_flatMap.1 hx
 rw[List.mem_singleton.1 hk]
 rfl
theorem wx{α:Type}{f:α->List Value}{c:Nat}(hf:∀ a,(f a).length=c):∀(i:Nat) (l:List α),(l.flatMap f).drop (i * c)=(l.drop i).flatMap f
 | 0,l=>by simp
 | i+1,[]=>by simp
 | i+1,a::l=>by
  rw[List.flatMap_cons,List.drop_append,List.drop_of_length_le (by rw[hf];rw[Nat.add_mul];omega),List.nil_append,hf,show(i+1) * c - c=i * c by rw[Nat.add_mul];omega,wx hf i l,List.drop_succ_cons]
theorem wy{α:Type}{f:α->List Value}{c:Nat}(hf:∀ a,(f a).length=c):∀(i:Nat) (l:List α),(l.flatMap f).take (i * c)=(l.take i).flatMap f
 | 0,l=>by simp
 | i+1,[]=>by simp
 | i+1,a::l=>by
  rw[List.flatMap_cons,List.take_append,List.take_of_length_le (by rw[hf];rw[Nat.add_mul];omega),hf,show(i+1) * c - c=i * c by rw[Nat.add_mul];omega,wy hf i l,List.take_succ_cons,List.flatMap_cons]
theorem Hz(fl:List Ft){i j:Nat}(h:i<=j):((fl.flatMap fF).drop (i * 10)).take ((j - i) * 10)=(part fl i j).flatMap fF:=by
 rw[wx (c:=10) (f:=fF) (fun _=>rfl),wy (c:=10) (f:=fF) (fun _=>rfl)]
 unfold part
 rw[List.drop_take]
section
variable{w0:World}{n:Int}{B:Rat}{s:St}{v lv rv:Value}{fl:List Ft}{d:Dd}(hE:En w0)(hB:VB n B s.ws)(hn:0<=n/\n+fl.length<=1000000)(hv:dJ w0 15 v s.ws.length ((s.ws.map wr).flatMap fW))(hr:dJ w0 1 rv s.rg.length (s.rg.flatMap fN))(hF:Fk w0 lv fl)(hfl:tC fl)(ha:s.at'<=fl.length)(hrg:s.rg.length<=1000000)(hd:Ddk d)
include hE hB hn hv hr hF hfl ha hrg hd
set_option maxHeartbeats 16000000 in
theorem Lr(hk:cQ d.kind 4≠0):Calls prog 11 #[M0 B v lv s.at' rv,vD d] w0 (bQ (Sy w0 B (AM B fl d s) v lv rv)):=by
 have k0:=hd.kind
 have x0:=hd.x 0
 have x1:=hd.x 1
 have x2:=hd.x 2
 have x3:=hd.x 3
 have x4:=hd.x 4
 have x5:=hd.x 5
 have km:=hd.many
 have hfll:=hfl.1
 have kb:=dQ (c:=d.kind) (n:=4) (by decide)
 obtain⟨kk,hkk⟩:∃ kk,cQ d.kind 4=kk:=⟨_,rfl⟩
 have cc1:∀ {W:World},bK w0 W->Calls prog 27 #[.int .i64 d.kind,.int .i64 4] W (bQ fun r w'=>bK W w'/\r=.int .i64 kk):=fun {W} _=>by
  have:=nX (w:=W) (n:=4) k0 (by decide)
  rw[hkk]at this
  exact this
 have pb:=dQ (c:=d.many) (n:=6) (by decide)
 have qb:=dQ (c:=d.many) (n:=(s.at':Int)+1) (by omega)
 have cc2:=fun {W:World} (_:bK w0 W)=>nX (w:=W) (n:=6) km (by decide)
 have cc3:=fun {W:World} (_:bK w0 W)=>nX (w:=W) (n:=(s.at':Int)+1) km (by omega)
 obtain⟨va,vb,vc,rfl,_⟩:=hv.key
 obtain⟨la,lb,lc,rfl,_⟩:=hF.hv.key
 obtain⟨ra,rb,rc,rfl,_⟩:=hr.key
 have hlv:=hF.hv
 obtain⟨f,hf⟩:∃ f,u9 d s.at'=f:=⟨_,rfl⟩
 obtain⟨t,ht⟩:∃ t,Io d s.at' fl.length=t:=⟨_,rfl⟩
 have hft:f<=t/\t<=fl.length:=by
  rw[<-hf,<-ht];unfold u9 Io
  split <;> omega
 have es:AM B fl d s=⟨obs s.ws (part fl f t),max s.at' t,s.rg++dD s.ws (obs s.ws (part fl f t)) 0⟩:=by unfold AM;rw[if_neg hk,hf,ht]
 rw[es]
 have hpl:=Ds fl f t
 have hpn:=NV (fl:=fl) hft.1 hft.2
 have hpv:=Dr hfl f t
 have hpf:=Hz fl hft.1
 have cc4:=fun {W:World} (e:bK w0 W) {pv:Value} (hp:Fk W pv (part fl f t))=>ja (w0:=W) hB (by omega) (hv.ext e) (hE.ext e) hp hpv (by omega)
 rw[hkk]at hk kb
 apply ki
 unfold iq
 have h:=Hp.init [] w0
 refine ep h fun g1 w h=>?_
 refine ep h fun g2 w h=>?_
 refine du h fun g3 w h=>?_
 refine ck (Eng.ld1 h 1 rfl rfl (ce h ec (cc1 h.ext) fun w h=>?_))
 refine io (by omega) (cf (ck (Eng.ld1 h 2 rfl rfl ?_)))
 replace h:=h.dr
 refine di (iX h 2 rfl rfl (QH (hlv.hp h) ?_))
 refine di (iX h 2 rfl rfl (di (iX h 1 rfl rfl (ce h ec (cc2 h.ext) fun w h=>?_))))
 refine fU h 2 rfl rfl (fU h 2 rfl rfl (Kz (by omega) (by omega) (Fp ?_)))
 refine vt.lf (.int .i64 (f:Nat)) (.int .i64 (t:Nat)) h (fun K lf1=>?_) (fun W1 h=>?_)
 ·by_cases h1:kk=1
  ·have e1:((f:Nat):Int)=cQ d.many ((s.at':Int)+1):=by
    rw[<-hf];unfold u9;rw[hkk,if_pos h1];omega
   have e2:t=s.at':=by rw[<-ht];unfold Io;rw[hkk,if_pos h1]
   rw[e1,e2]at lf1
   refine ck (Eng.ld1 h 1 rfl rfl (ce h ec (cc1 h.ext) fun w h=>?_))
   refine ea (by omega) (co (ck (Eng.ld1 h 1 rfl rfl (ck (Eng.ld1 h 2 rfl rfl (cF (by omega) (by omega) (ce h ec (cc3 h.ext) fun w h=>?_)))))))
   refine ck (Eng.ld1 h 2 rfl rfl ?_)
   exact lf1 _ h
  ·have e1:f=s.at':=by rw[<-hf];unfold u9;rw[hkk,if_neg h1]
   have e2:((t:Nat):Int)=min (fl.length:Int) ((s.at':Int)+cQ d.many 6):=by
    rw[<-ht];unfold Io;rw[hkk,if_neg h1];omega
   rw[e1,e2]at lf1
   refine ck (Eng.ld1 h 1 rfl rfl (ce h ec (cc1 h.ext) fun w h=>?_))
   refine io (by omega) (cf ?_)
   exact lf1 _ h
 clear cc1 cc2 cc3
 skip
 refine K7.mk fun K lf=>?_
 have lf1:∀ {W:World} {g:Nat} {a a':Option Addr} {b c b' c':Nat},Hp [] w0 W [bx g jA [bh (tx B).1,bh (tx B).2,.slice a b c],ro gM 15 (.slice a b c) (obs s.ws (part fl f t)).length (((obs s.ws (part fl f t)).map wr).flatMap fW),ro 3 1 (.slice a' b' c') (dD s.ws (obs s.ws (part fl f t)) 0).length ((dD s.ws (obs s.ws (part fl f t)) 0).flatMap fN),bx g3 Im [bh [],bh [],.slice none 0 0,.slice none 0 0,.int .i64 0,.slice none 0 0],bx g2 TW [.int .i64 d.kind,.int .i64 (d.x 0),.int .i64 (d.x 1),.int .i64 (d.x 2),.int .i64 (d.x 3),.int .i64 (d.x 4),.int .i64 (d.x 5),.int .i64 d.many],bx g1 Im [bh (tx B).1,bh (tx B).2,.slice va vb vc,.slice la lb lc,.int .i64 s.at',.slice ra rb rc]]->K (pr g 0) (.slice a' b' c') (.int .i64 0) W:=fun {W} {g} {a} {a'} {b} {c} {b'} {c'} h=>lf _ _ _ W (by
  have o1:=IO s.rg
  have o2:=IO (dD s.ws (obs s.ws (part fl f t)) 0)
  have o3:=Alm.nf s.ws (obs s.ws (part fl f t)) 0
  have o4:=hB.len
  refine cE (by omega) (cf (dy h 0 rfl rfl ?_))
  refine ck (de h 5 rfl rfl rfl rfl fun w h=>?_)
  refine ck (Eng.ld1 h 5 rfl rfl (QM ?_))
  refine ck (tl h 5 rfl rfl rfl rfl fun w h=>?_)
  refine It h fun v1 w h=>?_
  refine ck (Eng.ld1 h 6 rfl rfl (kq (by rfl) (by decide) h 0 rfl (hr.hp h) (by first | rfl | assumption) (by omega) fun v2 w h=>?_))
  refine kq (by rfl) (by decide) h 0 rfl (qZ 3 h rfl) (by first | rfl | assumption) (by omega) fun v3 w h=>?_
  dsimp only[List.set]at h
  refine ck (HH h 6 rfl (qZ 0 h rfl) rfl fun w h=>?_)
  refine dy h 6 rfl rfl ?_
  refine de h 4 rfl rfl (by exact jv (a:=[_,_,_,_,_]) (b:=[]) (qZ 0 h rfl) rfl rfl) rfl fun w h=>?_
  refine mj h 4 rfl rfl ?_
  dsimp only[List.set]at h
  have em:((max s.at' t:Nat):Int)=max (s.at':Int) (t:Int):=by omega
  have h0:=h.sl (i:=0) rfl
  rw[List.nil_append,<-List.flatMap_append,Nat.zero_add,<-List.length_append]at h0
  refine bQ.mk ⟨_,_,?_,h.ext,h.sl (i:=2) rfl,h0,h.own (i:=2) rfl,h.own (i:=0) rfl⟩
  show _=Value.tuple #[.agg #[_,_,_,_,.int .i64 ((max s.at' t:Nat):Int),_],_]
  rw[em])
 clear lf
 replace h:=h.dr
 refine di (fu h 2 rfl rfl ?_)
 refine di (iX h 2 rfl rfl (SA (hlv.hp h) hft.1 hft.2 fun v1 p1=>?_))
 have hpF:∀ {W:World},bK w0 W->Fk W v1 (part fl f t):=fun {W} e=>⟨by
  have:=p1.2 _ (hlv.ext e)
  rw[hpf,<-hpn]at this
  exact this,fun f hf=>(hpv.2.1 f hf).fi,by omega⟩
 clear p1
 refine⟨?_,?_⟩
 ·refine cu cS (cc4 h.ext (hpF h.ext)) ?_
  rintro _ W2 ⟨a,b,c,a',b',c',rfl,h1⟩
  have h:=h.cat2 h1 dM dM
  clear h1 cc4
  refine kW (du h fun g4 w h=>?_)
  refine cP h 5 rfl rfl ?_
  refine fU h 5 rfl rfl (de h 0 rfl rfl rfl rfl fun w h=>?_)
  exact lf1 h
 ·refine du h fun g4 w h=>?_
  refine cP h 3 rfl rfl ?_
  refine fU h 3 rfl rfl (cu cS (cc4 h.ext (hpF h.ext)) ?_)
  rintro _ W2 ⟨a,b,c,a',b',c',rfl,h1⟩
  have h:=h.cat2 h1 dM dM
  clear h1 cc4
  refine kW (de h 2 rfl rfl rfl rfl fun w h=>?_)
  exact lf1 (h.pick [2,0,1,3,4,5] (by decide) rfl)
end
end Go.Proofs.YtnkmbjedcjcccaaGreatDoor
