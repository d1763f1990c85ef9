/-
  Contracts and plain lemmas. By an AI agent.
-/
import Derived.Test.YtnkmbjedcjcccaaGreatDoorAlI
import Derived.Test.YtnkmbjedcjcccaaGreatDoorPlain
import Derived.Test.YtnkmbjedcjcccaaGreatDoorTyp
set_option linter.all false
namespace Go.Proofs.YtnkmbjedcjcccaaGreatDoor
open Tryz
open Go Go.Eng Go.Proofs Go.Num Go.RowKit
open Go.Alm (Ft Wt Sm VW VA)
set_option maxRecDepth 100000
abbrev No:TypeId:=65
abbrev fF(f:Ft):List Value:=[.int .i64 f.tr,.int .i64 f.sp,.int .i64 f.sv,.int .i64 f.ve,.int .i64 f.op,.int .i64 f.pe,.int .i64 f.da,.int .i64 f.lo,.int .i64 f.hi,.int .i64 f.by']
abbrev vF(f:Ft):Value:=.agg #[.int .i64 f.tr,.int .i64 f.sp,.int .i64 f.sv,.int .i64 f.ve,.int .i64 f.op,.int .i64 f.pe,.int .i64 f.da,.int .i64 f.lo,.int .i64 f.hi,.int .i64 f.by']
structure FI(f:Ft):Prop where
 tr:eS f.tr
 sp:eS f.sp
 sv:eS f.sv
 ve:eS f.ve
 op:eS f.op
 pe:eS f.pe
 da:eS f.da
 lo:eS f.lo
 hi:eS f.hi
 by':eS f.by'
abbrev VF(f:Ft):Prop:=(0<=f.tr/\f.tr<=999)/\(0<=f.sp/\f.sp<=9)/\(0<=f.sv/\f.sv<=7)/\(0<=f.ve/\f.ve<=9)/\(0<=f.op/\f.op<=11)/\(-1<=f.pe/\f.pe<=19)/\f.da=f.tr / 10/\(0<=f.lo/\f.lo<=f.hi)/\f.hi<=4398046511104/\(0<=f.by'/\f.by'<=24000)
set_option maxHeartbeats 4000000 in
theorem Th{w0:World}{f:Ft}(hf:FI f):Calls prog 92 #[vF f] w0 (bQ fun r w'=>bK w0 w'/\r=.bool (decide (VF f))):=by
 obtain⟨i1,i2,i3,i4,i5,i6,i7,i8,i9,i10⟩:=hf
 by_cases n1:0<=f.tr/\f.tr<=999
 rotate_left
 ·rw[decide_eq_false (fun h:VF f=>n1 h.1)]
  have cc1:=fun {W:World} (_:bK w0 W)=>rE (w:=W) n1
  apply dB
  unfold dq
  have h:=Hp.init [] w0
  refine ep h fun g1 w h=>?_
  refine ck (Eng.ld1 h 0 rfl rfl (ce h bR (cc1 h.ext) fun w h=>?_))
  refine aK (aK (aK (aw (aK (aK (aK (aw (aK (aK (aK (aw (aK (aK (aK (aw (aK (aK (aK (aw (aK (aK (aK (aK (aK (aK (aw (aK (aK (aK (aK (aK (aw (aK (aK (aK (aw (aK (aK (aK ?_)))))))))))))))))))))))))))))))))))))))
  refine aw ?_
  exact bQ.mk ⟨h.ext,rfl⟩
 have cc1:=fun {W:World} (_:bK w0 W)=>rD (w:=W) n1
 by_cases n2:0<=f.sp/\f.sp<=9
 rotate_left
 ·rw[decide_eq_false (fun h:VF f=>n2 h.2.1)]
  have cc2:=fun {W:World} (_:bK w0 W)=>rE (w:=W) n2
  apply dB
  unfold dq
  have h:=Hp.init [] w0
  refine ep h fun g1 w h=>?_
  refine ck (Eng.ld1 h 0 rfl rfl (ce h bR (cc1 h.ext) fun w h=>?_))
  refine aP (ck (aP (Eng.ld1 h 0 rfl rfl (aP (ce h bR (cc2 h.ext) fun w h=>?_)))))
  refine aQ (aK (aK (aK (aw (aK (aK (aK (aw (aK (aK (aK (aw (aK (aK (aK (aw (aK (aK (aK (aK (aK (aK (aw (aK (aK (aK (aK (aK (aw (aK (aK (aK (aw (aK (aK (aK (aw ?_)))))))))))))))))))))))))))))))))))))
  exact bQ.mk ⟨h.ext,rfl⟩
 have cc2:=fun {W:World} (_:bK w0 W)=>rD (w:=W) n2
 by_cases n3:0<=f.sv/\f.sv<=7
 rotate_left
 ·rw[decide_eq_false (fun h:VF f=>n3 h.2.2.1)]
  have cc3:=fun {W:World} (_:bK w0 W)=>rE (w:=W) n3
  apply dB
  unfold dq
  have h:=Hp.init [] w0
  refine ep h fun g1 w h=>?_
  refine ck (Eng.ld1 h 0 rfl rfl (ce h bR (cc1 h.ext) fun w h=>?_))
  refine aP (ck (aP (Eng.ld1 h 0 rfl rfl (aP (ce h bR (cc2 h.ext) fun w h=>?_)))))
  refine aQ (aP (ck (aP (Eng.ld1 h 0 rfl rfl (aP (ce h bR (cc3 h.ext) fun w h=>?_))))))
  refine aQ (aK (aK (aK (aw (aK (aK (aK (aw (aK (aK (aK (aw (aK (aK (aK (aK (aK (aK (aw (aK (aK (aK (aK (aK (aw (aK (aK (aK (aw (aK (aK (aK (aw ?_)))))))))))))))))))))))))))))))))
  exact bQ.mk ⟨h.ext,rfl⟩
 have cc3:=fun {W:World} (_:bK w0 W)=>rD (w:=W) n3
 by_cases n4:0<=f.ve/\f.ve<=9
 rotate_left
 ·rw[decide_eq_false (fun h:VF f=>n4 h.2.2.2.1)]
  have cc4:=fun {W:World} (_:bK w0 W)=>rE (w:=W) n4
  apply dB
  unfold dq
  have h:=Hp.init [] w0
  refine ep h fun g1 w h=>?_
  refine ck (Eng.ld1 h 0 rfl rfl (ce h bR (cc1 h.ext) fun w h=>?_))
  refine aP (ck (aP (Eng.ld1 h 0 rfl rfl (aP (ce h bR (cc2 h.ext) fun w h=>?_)))))
  refine aQ (aP (ck (aP (Eng.ld1 h 0 rfl rfl (aP (ce h bR (cc3 h.ext) fun w h=>?_))))))
  refine aQ (aP (ck (aP (Eng.ld1 h 0 rfl rfl (aP (ce h bR (cc4 h.ext) fun w h=>?_))))))
  refine aQ (aK (aK (aK (aw (aK (aK (aK (aw (aK (aK (aK (aK (aK (aK (aw (aK (aK (aK (aK (aK (aw (aK (aK (aK (aw (aK (aK (aK (aw ?_)))))))))))))))))))))))))))))
  exact bQ.mk ⟨h.ext,rfl⟩
 have cc4:=fun {W:World} (_:bK w0 W)=>rD (w:=W) n4
 by_cases n5:0<=f.op/\f.op<=11
 rotate_left
 ·rw[decide_eq_false (fun h:VF f=>n5 h.2.2.2.2.1)]
  have cc5:=fun {W:World} (_:bK w0 W)=>rE (w:=W) n5
  apply dB
  unfold dq
  have h:=Hp.init [] w0
  refine ep h fun g1 w h=>?_
  refine ck (Eng.ld1 h 0 rfl rfl (ce h bR (cc1 h.ext) fun w h=>?_))
  refine aP (ck (aP (Eng.ld1 h 0 rfl rfl (aP (ce h bR (cc2 h.ext) fun w h=>?_)))))
  refine aQ (aP (ck (aP (Eng.ld1 h 0 rfl rfl (aP (ce h bR (cc3 h.ext) fun w h=>?_))))))
  refine aQ (aP (ck (aP (Eng.ld1 h 0 rfl rfl (aP (ce h bR (cc4 h.ext) fun w h=>?_))))))
  refine aQ (aP (ck (aP (Eng.ld1 h 0 rfl rfl (aP (ce h bR (cc5 h.ext) fun w h=>?_))))))
  refine aQ (aK (aK (aK (aw (aK (aK (aK (aK (aK (aK (aw (aK (aK (aK (aK (aK (aw (aK (aK (aK (aw (aK (aK (aK (aw ?_)))))))))))))))))))))))))
  exact bQ.mk ⟨h.ext,rfl⟩
 have cc5:=fun {W:World} (_:bK w0 W)=>rD (w:=W) n5
 by_cases n6: -1<=f.pe/\f.pe<=19
 rotate_left
 ·rw[decide_eq_false (fun h:VF f=>n6 h.2.2.2.2.2.1)]
  have cc6:=fun {W:World} (_:bK w0 W)=>rE (w:=W) n6
  apply dB
  unfold dq
  have h:=Hp.init [] w0
  refine ep h fun g1 w h=>?_
  refine ck (Eng.ld1 h 0 rfl rfl (ce h bR (cc1 h.ext) fun w h=>?_))
  refine aP (ck (aP (Eng.ld1 h 0 rfl rfl (aP (ce h bR (cc2 h.ext) fun w h=>?_)))))
  refine aQ (aP (ck (aP (Eng.ld1 h 0 rfl rfl (aP (ce h bR (cc3 h.ext) fun w h=>?_))))))
  refine aQ (aP (ck (aP (Eng.ld1 h 0 rfl rfl (aP (ce h bR (cc4 h.ext) fun w h=>?_))))))
  refine aQ (aP (ck (aP (Eng.ld1 h 0 rfl rfl (aP (ce h bR (cc5 h.ext) fun w h=>?_))))))
  refine aQ (aP (ck (aP (Eng.ld1 h 0 rfl rfl (aP (ce h bR (cc6 h.ext) fun w h=>?_))))))
  refine aQ (aK (aK (aK (aK (aK (aK (aw (aK (aK (aK (aK (aK (aw (aK (aK (aK (aw (aK (aK (aK (aw ?_)))))))))))))))))))))
  exact bQ.mk ⟨h.ext,rfl⟩
 have cc6:=fun {W:World} (_:bK w0 W)=>rD (w:=W) n6
 by_cases n7:f.da=f.tr / 10
 rotate_left
 ·rw[decide_eq_false (fun h:VF f=>n7 h.2.2.2.2.2.2.1)]
  apply dB
  unfold dq
  have h:=Hp.init [] w0
  refine ep h fun g1 w h=>?_
  refine ck (Eng.ld1 h 0 rfl rfl (ce h bR (cc1 h.ext) fun w h=>?_))
  refine aP (ck (aP (Eng.ld1 h 0 rfl rfl (aP (ce h bR (cc2 h.ext) fun w h=>?_)))))
  refine aQ (aP (ck (aP (Eng.ld1 h 0 rfl rfl (aP (ce h bR (cc3 h.ext) fun w h=>?_))))))
  refine aQ (aP (ck (aP (Eng.ld1 h 0 rfl rfl (aP (ce h bR (cc4 h.ext) fun w h=>?_))))))
  refine aQ (aP (ck (aP (Eng.ld1 h 0 rfl rfl (aP (ce h bR (cc5 h.ext) fun w h=>?_))))))
  refine aQ (aP (ck (aP (Eng.ld1 h 0 rfl rfl (aP (ce h bR (cc6 h.ext) fun w h=>?_))))))
  refine aQ (aP (ck (aP (Eng.ld1 h 0 rfl rfl (aP (ck (aP (Eng.ld1 h 0 rfl rfl (aP (lX (by omega) (by omega) (by omega) (aP (io (by omega) (aQ (aK (aK (aK (aK (aK (aw (aK (aK (aK (aw (aK (aK (aK (aw ?_)))))))))))))))))))))))))))
  exact bQ.mk ⟨h.ext,rfl⟩
 by_cases n8:0<=f.lo/\f.lo<=f.hi
 rotate_left
 ·rw[decide_eq_false (fun h:VF f=>n8 h.2.2.2.2.2.2.2.1)]
  have cc8:=fun {W:World} (_:bK w0 W)=>rE (w:=W) n8
  apply dB
  unfold dq
  have h:=Hp.init [] w0
  refine ep h fun g1 w h=>?_
  refine ck (Eng.ld1 h 0 rfl rfl (ce h bR (cc1 h.ext) fun w h=>?_))
  refine aP (ck (aP (Eng.ld1 h 0 rfl rfl (aP (ce h bR (cc2 h.ext) fun w h=>?_)))))
  refine aQ (aP (ck (aP (Eng.ld1 h 0 rfl rfl (aP (ce h bR (cc3 h.ext) fun w h=>?_))))))
  refine aQ (aP (ck (aP (Eng.ld1 h 0 rfl rfl (aP (ce h bR (cc4 h.ext) fun w h=>?_))))))
  refine aQ (aP (ck (aP (Eng.ld1 h 0 rfl rfl (aP (ce h bR (cc5 h.ext) fun w h=>?_))))))
  refine aQ (aP (ck (aP (Eng.ld1 h 0 rfl rfl (aP (ce h bR (cc6 h.ext) fun w h=>?_))))))
  refine aQ (aP (ck (aP (Eng.ld1 h 0 rfl rfl (aP (ck (aP (Eng.ld1 h 0 rfl rfl (aP (lX (by omega) (by omega) (by omega) (aP (ea (by omega) (aQ (aP (ck (aP (Eng.ld1 h 0 rfl rfl (aP (ck (aP (Eng.ld1 h 0 rfl rfl (aP (ce h bR (cc8 h.ext) fun w h=>?_)))))))))))))))))))))))
  refine aQ (aK (aK (aK (aw (aK (aK (aK (aw ?_))))))))
  exact bQ.mk ⟨h.ext,rfl⟩
 have cc8:=fun {W:World} (_:bK w0 W)=>rD (w:=W) n8
 by_cases n9:f.hi<=4398046511104
 rotate_left
 ·rw[decide_eq_false (fun h:VF f=>n9 h.2.2.2.2.2.2.2.2.1)]
  apply dB
  unfold dq
  have h:=Hp.init [] w0
  refine ep h fun g1 w h=>?_
  refine ck (Eng.ld1 h 0 rfl rfl (ce h bR (cc1 h.ext) fun w h=>?_))
  refine aP (ck (aP (Eng.ld1 h 0 rfl rfl (aP (ce h bR (cc2 h.ext) fun w h=>?_)))))
  refine aQ (aP (ck (aP (Eng.ld1 h 0 rfl rfl (aP (ce h bR (cc3 h.ext) fun w h=>?_))))))
  refine aQ (aP (ck (aP (Eng.ld1 h 0 rfl rfl (aP (ce h bR (cc4 h.ext) fun w h=>?_))))))
  refine aQ (aP (ck (aP (Eng.ld1 h 0 rfl rfl (aP (ce h bR (cc5 h.ext) fun w h=>?_))))))
  refine aQ (aP (ck (aP (Eng.ld1 h 0 rfl rfl (aP (ce h bR (cc6 h.ext) fun w h=>?_))))))
  refine aQ (aP (ck (aP (Eng.ld1 h 0 rfl rfl (aP (ck (aP (Eng.ld1 h 0 rfl rfl (aP (lX (by omega) (by omega) (by omega) (aP (ea (by omega) (aQ (aP (ck (aP (Eng.ld1 h 0 rfl rfl (aP (ck (aP (Eng.ld1 h 0 rfl rfl (aP (ce h bR (cc8 h.ext) fun w h=>?_)))))))))))))))))))))))
  refine aQ (aP (ck (aP (Eng.ld1 h 0 rfl rfl (aP (jg (by omega) (aQ (aK (aK (aK (aw ?_)))))))))))
  exact bQ.mk ⟨h.ext,rfl⟩
 by_cases n10:0<=f.by'/\f.by'<=24000
 rotate_left
 ·rw[decide_eq_false (fun h:VF f=>n10 h.2.2.2.2.2.2.2.2.2)]
  have cc10:=fun {W:World} (_:bK w0 W)=>rE (w:=W) n10
  apply dB
  unfold dq
  have h:=Hp.init [] w0
  refine ep h fun g1 w h=>?_
  refine ck (Eng.ld1 h 0 rfl rfl (ce h bR (cc1 h.ext) fun w h=>?_))
  refine aP (ck (aP (Eng.ld1 h 0 rfl rfl (aP (ce h bR (cc2 h.ext) fun w h=>?_)))))
  refine aQ (aP (ck (aP (Eng.ld1 h 0 rfl rfl (aP (ce h bR (cc3 h.ext) fun w h=>?_))))))
  refine aQ (aP (ck (aP (Eng.ld1 h 0 rfl rfl (aP (ce h bR (cc4 h.ext) fun w h=>?_))))))
  refine aQ (aP (ck (aP (Eng.ld1 h 0 rfl rfl (aP (ce h bR (cc5 h.ext) fun w h=>?_))))))
  refine aQ (aP (ck (aP (Eng.ld1 h 0 rfl rfl (aP (ce h bR (cc6 h.ext) fun w h=>?_))))))
  refine aQ (aP (ck (aP (Eng.ld1 h 0 rfl rfl (aP (ck (aP (Eng.ld1 h 0 rfl rfl (aP (lX (by omega) (by omega) (by omega) (aP (ea (by omega) (aQ (aP (ck (aP (Eng.ld1 h 0 rfl rfl (aP (ck (aP (Eng.ld1 h 0 rfl rfl (aP (ce h bR (cc8 h.ext) fun w h=>?_)))))))))))))))))))))))
  refine aQ (aP (ck (aP (Eng.ld1 h 0 rfl rfl (aP (fp (by omega) (aQ (aP (ck (aP (Eng.ld1 h 0 rfl rfl (aP (ce h bR (cc10 h.ext) fun w h=>?_)))))))))))))
  refine aQ ?_
  exact bQ.mk ⟨h.ext,rfl⟩
 have cc10:=fun {W:World} (_:bK w0 W)=>rD (w:=W) n10
 rw[decide_eq_true (show VF f from⟨n1,n2,n3,n4,n5,n6,n7,n8,n9,n10⟩)]
 apply dB
 unfold dq
 have h:=Hp.init [] w0
 refine ep h fun g1 w h=>?_
 refine ck (Eng.ld1 h 0 rfl rfl (ce h bR (cc1 h.ext) fun w h=>?_))
 refine aP (ck (aP (Eng.ld1 h 0 rfl rfl (aP (ce h bR (cc2 h.ext) fun w h=>?_)))))
 refine aQ (aP (ck (aP (Eng.ld1 h 0 rfl rfl (aP (ce h bR (cc3 h.ext) fun w h=>?_))))))
 refine aQ (aP (ck (aP (Eng.ld1 h 0 rfl rfl (aP (ce h bR (cc4 h.ext) fun w h=>?_))))))
 refine aQ (aP (ck (aP (Eng.ld1 h 0 rfl rfl (aP (ce h bR (cc5 h.ext) fun w h=>?_))))))
 refine aQ (aP (ck (aP (Eng.ld1 h 0 rfl rfl (aP (ce h bR (cc6 h.ext) fun w h=>?_))))))
 refine aQ (aP (ck (aP (Eng.ld1 h 0 rfl rfl (aP (ck (aP (Eng.ld1 h 0 rfl rfl (aP (lX (by omega) (by omega) (by omega) (aP (ea (by omega) (aQ (aP (ck (aP (Eng.ld1 h 0 rfl rfl (aP (ck (aP (Eng.ld1 h 0 rfl rfl (aP (ce h bR (cc8 h.ext) fun w h=>?_)))))))))))))))))))))))
 refine aQ (aP (ck (aP (Eng.ld1 h 0 rfl rfl (aP (fp (by omega) (aQ (aP (ck (aP (Eng.ld1 h 0 rfl rfl (aP (ce h bR (cc10 h.ext) fun w h=>?_)))))))))))))
 refine aQ ?_
 exact bQ.mk ⟨h.ext,rfl⟩
set_option maxHeartbeats 4000000 in
theorem Q0{w0:World}{f:Ft}(hf:FI f):Calls prog 98 #[vF f] w0 (bQ fun r w'=>bK w0 w'/\r=.bool (decide (VF f))):=by
 obtain⟨i1,i2,i3,i4,i5,i6,i7,i8,i9,i10⟩:=hf
 by_cases n1:0<=f.tr/\f.tr<=999
 rotate_left
 ·rw[decide_eq_false (fun h:VF f=>n1 h.1)]
  have cc1:=fun {W:World} (_:bK w0 W)=>uH (w:=W) n1
  apply dt
  unfold dm
  have h:=Hp.init [] w0
  refine ep h fun g1 w h=>?_
  refine ck (Eng.ld1 h 0 rfl rfl (ce h cj (cc1 h.ext) fun w h=>?_))
  refine d7 (aR (aR (aR (aR (aQ (aR (aR (aR (aR (aQ (aR (aR (aR (aR (aQ (aR (aR (aR (aR (aQ (aR (aR (aR (aR (aQ (co ?_))))))))))))))))))))))))))
  exact bQ.mk ⟨h.ext,rfl⟩
 have cc1:=fun {W:World} (_:bK w0 W)=>uG (w:=W) n1
 by_cases n2:0<=f.sp/\f.sp<=9
 rotate_left
 ·rw[decide_eq_false (fun h:VF f=>n2 h.2.1)]
  have cc2:=fun {W:World} (_:bK w0 W)=>uH (w:=W) n2
  apply dt
  unfold dm
  have h:=Hp.init [] w0
  refine ep h fun g1 w h=>?_
  refine ck (Eng.ld1 h 0 rfl rfl (ce h cj (cc1 h.ext) fun w h=>?_))
  refine ct (ah (ck (ah (Eng.ld1 h 0 rfl rfl (ah (ce h cj (cc2 h.ext) fun w h=>?_))))))
  refine ah (d7 (aw (aR (aR (aR (aR (aQ (aR (aR (aR (aR (aQ (aR (aR (aR (aR (aQ (aR (aR (aR (aR (aQ (co ?_)))))))))))))))))))))))
  exact bQ.mk ⟨h.ext,rfl⟩
 have cc2:=fun {W:World} (_:bK w0 W)=>uG (w:=W) n2
 by_cases n3:0<=f.sv/\f.sv<=7
 rotate_left
 ·rw[decide_eq_false (fun h:VF f=>n3 h.2.2.1)]
  have cc3:=fun {W:World} (_:bK w0 W)=>uH (w:=W) n3
  apply dt
  unfold dm
  have h:=Hp.init [] w0
  refine ep h fun g1 w h=>?_
  refine ck (Eng.ld1 h 0 rfl rfl (ce h cj (cc1 h.ext) fun w h=>?_))
  refine ct (ah (ck (ah (Eng.ld1 h 0 rfl rfl (ah (ce h cj (cc2 h.ext) fun w h=>?_))))))
  refine ah (ct (aw (ah (ck (ah (Eng.ld1 h 0 rfl rfl (ah (ce h cj (cc3 h.ext) fun w h=>?_))))))))
  refine ah (d7 (aw (aR (aR (aR (aR (aQ (aR (aR (aR (aR (aQ (aR (aR (aR (aR (aQ (co ?_))))))))))))))))))
  exact bQ.mk ⟨h.ext,rfl⟩
 have cc3:=fun {W:World} (_:bK w0 W)=>uG (w:=W) n3
 by_cases n4:0<=f.ve/\f.ve<=9
 rotate_left
 ·rw[decide_eq_false (fun h:VF f=>n4 h.2.2.2.1)]
  have cc4:=fun {W:World} (_:bK w0 W)=>uH (w:=W) n4
  apply dt
  unfold dm
  have h:=Hp.init [] w0
  refine ep h fun g1 w h=>?_
  refine ck (Eng.ld1 h 0 rfl rfl (ce h cj (cc1 h.ext) fun w h=>?_))
  refine ct (ah (ck (ah (Eng.ld1 h 0 rfl rfl (ah (ce h cj (cc2 h.ext) fun w h=>?_))))))
  refine ah (ct (aw (ah (ck (ah (Eng.ld1 h 0 rfl rfl (ah (ce h cj (cc3 h.ext) fun w h=>?_))))))))
  refine ah (ct (aw (ah (ck (ah (Eng.ld1 h 0 rfl rfl (ah (ce h cj (cc4 h.ext) fun w h=>?_))))))))
  refine ah (d7 (aw (aR (aR (aR (aR (aQ (aR (aR (aR (aR (aQ (co ?_)))))))))))))
  exact bQ.mk ⟨h.ext,rfl⟩
 have cc4:=fun {W:World} (_:bK w0 W)=>uG (w:=W) n4
 by_cases n5:0<=f.op/\f.op<=11
 rotate_left
 ·rw[decide_eq_false (fun h:VF f=>n5 h.2.2.2.2.1)]
  have cc5:=fun {W:World} (_:bK w0 W)=>uH (w:=W) n5
  apply dt
  unfold dm
  have h:=Hp.init [] w0
  refine ep h fun g1 w h=>?_
  refine ck (Eng.ld1 h 0 rfl rfl (ce h cj (cc1 h.ext) fun w h=>?_))
  refine ct (ah (ck (ah (Eng.ld1 h 0 rfl rfl (ah (ce h cj (cc2 h.ext) fun w h=>?_))))))
  refine ah (ct (aw (ah (ck (ah (Eng.ld1 h 0 rfl rfl (ah (ce h cj (cc3 h.ext) fun w h=>?_))))))))
  refine ah (ct (aw (ah (ck (ah (Eng.ld1 h 0 rfl rfl (ah (ce h cj (cc4 h.ext) fun w h=>?_))))))))
  refine ah (ct (aw (ah (ck (ah (Eng.ld1 h 0 rfl rfl (ah (ce h cj (cc5 h.ext) fun w h=>?_))))))))
  refine ah (d7 (aw (aR (aR (aR (aR (aQ (co ?_))))))))
  exact bQ.mk ⟨h.ext,rfl⟩
 have cc5:=fun {W:World} (_:bK w0 W)=>uG (w:=W) n5
 by_cases n6: -1<=f.pe/\f.pe<=19
 rotate_left
 ·rw[decide_eq_false (fun h:VF f=>n6 h.2.2.2.2.2.1)]
  have cc6:=fun {W:World} (_:bK w0 W)=>uH (w:=W) n6
  apply dt
  unfold dm
  have h:=Hp.init [] w0
  refine ep h fun g1 w h=>?_
  refine ck (Eng.ld1 h 0 rfl rfl (ce h cj (cc1 h.ext) fun w h=>?_))
  refine ct (ah (ck (ah (Eng.ld1 h 0 rfl rfl (ah (ce h cj (cc2 h.ext) fun w h=>?_))))))
  refine ah (ct (aw (ah (ck (ah (Eng.ld1 h 0 rfl rfl (ah (ce h cj (cc3 h.ext) fun w h=>?_))))))))
  refine ah (ct (aw (ah (ck (ah (Eng.ld1 h 0 rfl rfl (ah (ce h cj (cc4 h.ext) fun w h=>?_))))))))
  refine ah (ct (aw (ah (ck (ah (Eng.ld1 h 0 rfl rfl (ah (ce h cj (cc5 h.ext) fun w h=>?_))))))))
  refine ah (ct (aw (ah (ck (ah (Eng.ld1 h 0 rfl rfl (ah (ce h cj (cc6 h.ext) fun w h=>?_))))))))
  refine ah (d7 (aw (co ?_)))
  exact bQ.mk ⟨h.ext,rfl⟩
 have cc6:=fun {W:World} (_:bK w0 W)=>uG (w:=W) n6
 by_cases n7:f.da=f.tr / 10
 rotate_left
 ·rw[decide_eq_false (fun h:VF f=>n7 h.2.2.2.2.2.2.1)]
  apply dt
  unfold dm
  have h:=Hp.init [] w0
  refine ep h fun g1 w h=>?_
  refine ck (Eng.ld1 h 0 rfl rfl (ce h cj (cc1 h.ext) fun w h=>?_))
  refine ct (ah (ck (ah (Eng.ld1 h 0 rfl rfl (ah (ce h cj (cc2 h.ext) fun w h=>?_))))))
  refine ah (ct (aw (ah (ck (ah (Eng.ld1 h 0 rfl rfl (ah (ce h cj (cc3 h.ext) fun w h=>?_))))))))
  refine ah (ct (aw (ah (ck (ah (Eng.ld1 h 0 rfl rfl (ah (ce h cj (cc4 h.ext) fun w h=>?_))))))))
  refine ah (ct (aw (ah (ck (ah (Eng.ld1 h 0 rfl rfl (ah (ce h cj (cc5 h.ext) fun w h=>?_))))))))
  refine ah (ct (aw (ah (ck (ah (Eng.ld1 h 0 rfl rfl (ah (ce h cj (cc6 h.ext) fun w h=>?_))))))))
  refine ah (ct (aw (cf (ck (Eng.ld1 h 0 rfl rfl (ck (Eng.ld1 h 0 rfl rfl (lX (by omega) (by omega) (by omega) (io (by omega) (aK (aK (aK (aw (aK (aK (aK (aK (aK (aw (aK (aK (aK (aw (aK (aK (aK (aw ?_)))))))))))))))))))))))))))
  exact bQ.mk ⟨h.ext,rfl⟩
 by_cases n8:0<=f.lo/\f.lo<=f.hi
 rotate_left
 ·rw[decide_eq_false (fun h:VF f=>n8 h.2.2.2.2.2.2.2.1)]
  by_cases m8:0<=f.lo
  ·have m9:¬f.lo<=f.hi:=fun h=>n8 ⟨m8,h⟩
   apply dt
   unfold dm
   have h:=Hp.init [] w0
   refine ep h fun g1 w h=>?_
   refine ck (Eng.ld1 h 0 rfl rfl (ce h cj (cc1 h.ext) fun w h=>?_))
   refine ct (ah (ck (ah (Eng.ld1 h 0 rfl rfl (ah (ce h cj (cc2 h.ext) fun w h=>?_))))))
   refine ah (ct (aw (ah (ck (ah (Eng.ld1 h 0 rfl rfl (ah (ce h cj (cc3 h.ext) fun w h=>?_))))))))
   refine ah (ct (aw (ah (ck (ah (Eng.ld1 h 0 rfl rfl (ah (ce h cj (cc4 h.ext) fun w h=>?_))))))))
   refine ah (ct (aw (ah (ck (ah (Eng.ld1 h 0 rfl rfl (ah (ce h cj (cc5 h.ext) fun w h=>?_))))))))
   refine ah (ct (aw (ah (ck (ah (Eng.ld1 h 0 rfl rfl (ah (ce h cj (cc6 h.ext) fun w h=>?_))))))))
   refine ah (ct (aw (cf (ck (Eng.ld1 h 0 rfl rfl (ck (Eng.ld1 h 0 rfl rfl (lX (by omega) (by omega) (by omega) (ea (by omega) (aP (ck (aP (Eng.ld1 h 0 rfl rfl (aP (ft (by omega) (aQ (aP (ck (aP (Eng.ld1 h 0 rfl rfl (aP (ck (aP (Eng.ld1 h 0 rfl rfl (aP (jg (by omega) (aQ (aK (aK (aK (aw (aK (aK (aK (aw ?_)))))))))))))))))))))))))))))))))))
   exact bQ.mk ⟨h.ext,rfl⟩
  ·skip
   apply dt
   unfold dm
   have h:=Hp.init [] w0
   refine ep h fun g1 w h=>?_
   refine ck (Eng.ld1 h 0 rfl rfl (ce h cj (cc1 h.ext) fun w h=>?_))
   refine ct (ah (ck (ah (Eng.ld1 h 0 rfl rfl (ah (ce h cj (cc2 h.ext) fun w h=>?_))))))
   refine ah (ct (aw (ah (ck (ah (Eng.ld1 h 0 rfl rfl (ah (ce h cj (cc3 h.ext) fun w h=>?_))))))))
   refine ah (ct (aw (ah (ck (ah (Eng.ld1 h 0 rfl rfl (ah (ce h cj (cc4 h.ext) fun w h=>?_))))))))
   refine ah (ct (aw (ah (ck (ah (Eng.ld1 h 0 rfl rfl (ah (ce h cj (cc5 h.ext) fun w h=>?_))))))))
   refine ah (ct (aw (ah (ck (ah (Eng.ld1 h 0 rfl rfl (ah (ce h cj (cc6 h.ext) fun w h=>?_))))))))
   refine ah (ct (aw (cf (ck (Eng.ld1 h 0 rfl rfl (ck (Eng.ld1 h 0 rfl rfl (lX (by omega) (by omega) (by omega) (ea (by omega) (aP (ck (aP (Eng.ld1 h 0 rfl rfl (aP (jB (by omega) (aQ (aK (aK (aK (aK (aK (aw (aK (aK (aK (aw (aK (aK (aK (aw ?_))))))))))))))))))))))))))))))
   exact bQ.mk ⟨h.ext,rfl⟩
 by_cases n9:f.hi<=4398046511104
 rotate_left
 ·rw[decide_eq_false (fun h:VF f=>n9 h.2.2.2.2.2.2.2.2.1)]
  apply dt
  unfold dm
  have h:=Hp.init [] w0
  refine ep h fun g1 w h=>?_
  refine ck (Eng.ld1 h 0 rfl rfl (ce h cj (cc1 h.ext) fun w h=>?_))
  refine ct (ah (ck (ah (Eng.ld1 h 0 rfl rfl (ah (ce h cj (cc2 h.ext) fun w h=>?_))))))
  refine ah (ct (aw (ah (ck (ah (Eng.ld1 h 0 rfl rfl (ah (ce h cj (cc3 h.ext) fun w h=>?_))))))))
  refine ah (ct (aw (ah (ck (ah (Eng.ld1 h 0 rfl rfl (ah (ce h cj (cc4 h.ext) fun w h=>?_))))))))
  refine ah (ct (aw (ah (ck (ah (Eng.ld1 h 0 rfl rfl (ah (ce h cj (cc5 h.ext) fun w h=>?_))))))))
  refine ah (ct (aw (ah (ck (ah (Eng.ld1 h 0 rfl rfl (ah (ce h cj (cc6 h.ext) fun w h=>?_))))))))
  refine ah (ct (aw (cf (ck (Eng.ld1 h 0 rfl rfl (ck (Eng.ld1 h 0 rfl rfl (lX (by omega) (by omega) (by omega) (ea (by omega) (aP (ck (aP (Eng.ld1 h 0 rfl rfl (aP (ft (by omega) (aQ (aP (ck (aP (Eng.ld1 h 0 rfl rfl (aP (ck (aP (Eng.ld1 h 0 rfl rfl (aP (fp (by omega) (aQ (aP (ck (aP (Eng.ld1 h 0 rfl rfl (aP (jg (by omega) (aQ (aK (aK (aK (aw ?_))))))))))))))))))))))))))))))))))))))
  exact bQ.mk ⟨h.ext,rfl⟩
 by_cases n10:0<=f.by'/\f.by'<=24000
 rotate_left
 ·rw[decide_eq_false (fun h:VF f=>n10 h.2.2.2.2.2.2.2.2.2)]
  have cc10:=fun {W:World} (_:bK w0 W)=>uH (w:=W) n10
  apply dt
  unfold dm
  have h:=Hp.init [] w0
  refine ep h fun g1 w h=>?_
  refine ck (Eng.ld1 h 0 rfl rfl (ce h cj (cc1 h.ext) fun w h=>?_))
  refine ct (ah (ck (ah (Eng.ld1 h 0 rfl rfl (ah (ce h cj (cc2 h.ext) fun w h=>?_))))))
  refine ah (ct (aw (ah (ck (ah (Eng.ld1 h 0 rfl rfl (ah (ce h cj (cc3 h.ext) fun w h=>?_))))))))
  refine ah (ct (aw (ah (ck (ah (Eng.ld1 h 0 rfl rfl (ah (ce h cj (cc4 h.ext) fun w h=>?_))))))))
  refine ah (ct (aw (ah (ck (ah (Eng.ld1 h 0 rfl rfl (ah (ce h cj (cc5 h.ext) fun w h=>?_))))))))
  refine ah (ct (aw (ah (ck (ah (Eng.ld1 h 0 rfl rfl (ah (ce h cj (cc6 h.ext) fun w h=>?_))))))))
  refine ah (ct (aw (cf (ck (Eng.ld1 h 0 rfl rfl (ck (Eng.ld1 h 0 rfl rfl (lX (by omega) (by omega) (by omega) (ea (by omega) (aP (ck (aP (Eng.ld1 h 0 rfl rfl (aP (ft (by omega) (aQ (aP (ck (aP (Eng.ld1 h 0 rfl rfl (aP (ck (aP (Eng.ld1 h 0 rfl rfl (aP (fp (by omega) (aQ (aP (ck (aP (Eng.ld1 h 0 rfl rfl (aP (fp (by omega) (aQ (aP (ck (aP (Eng.ld1 h 0 rfl rfl (aP ?_)))))))))))))))))))))))))))))))))))))))
  refine ce h cj (cc10 h.ext) fun w h=>?_
  refine aQ ?_
  exact bQ.mk ⟨h.ext,rfl⟩
 have cc10:=fun {W:World} (_:bK w0 W)=>uG (w:=W) n10
 rw[decide_eq_true (show VF f from⟨n1,n2,n3,n4,n5,n6,n7,n8,n9,n10⟩)]
 apply dt
 unfold dm
 have h:=Hp.init [] w0
 refine ep h fun g1 w h=>?_
 refine ck (Eng.ld1 h 0 rfl rfl (ce h cj (cc1 h.ext) fun w h=>?_))
 refine ct (ah (ck (ah (Eng.ld1 h 0 rfl rfl (ah (ce h cj (cc2 h.ext) fun w h=>?_))))))
 refine ah (ct (aw (ah (ck (ah (Eng.ld1 h 0 rfl rfl (ah (ce h cj (cc3 h.ext) fun w h=>?_))))))))
 refine ah (ct (aw (ah (ck (ah (Eng.ld1 h 0 rfl rfl (ah (ce h cj (cc4 h.ext) fun w h=>?_))))))))
 refine ah (ct (aw (ah (ck (ah (Eng.ld1 h 0 rfl rfl (ah (ce h cj (cc5 h.ext) fun w h=>?_))))))))
 refine ah (ct (aw (ah (ck (ah (Eng.ld1 h 0 rfl rfl (ah (ce h cj (cc6 h.ext) fun w h=>?_))))))))
 refine ah (ct (aw (cf (ck (Eng.ld1 h 0 rfl rfl (ck (Eng.ld1 h 0 rfl rfl (lX (by omega) (by omega) (by omega) (ea (by omega) (aP (ck (aP (Eng.ld1 h 0 rfl rfl (aP (ft (by omega) (aQ (aP (ck (aP (Eng.ld1 h 0 rfl rfl (aP (ck (aP (Eng.ld1 h 0 rfl rfl (aP (fp (by omega) (aQ (aP (ck (aP (Eng.ld1 h 0 rfl rfl (aP (fp (by omega) (aQ (aP (ck (aP (Eng.ld1 h 0 rfl rfl (aP ?_)))))))))))))))))))))))))))))))))))))))
 refine ce h cj (cc10 h.ext) fun w h=>?_
 refine aQ ?_
 exact bQ.mk ⟨h.ext,rfl⟩
theorem JS{w0:World}{a b:Int}:Calls prog 135 #[.int .i64 a,.int .i64 b] w0 (bQ fun r w'=>bK w0 w'/\r=.int .i64 (dK a b)):=by
 have cn:∀ {W:World} {x:Int},Calls prog 164 #[.int .i64 x] W (bQ fun r w'=>bK W w'/\r=.bool false):=fun {W x}=>by
  refine(Tryz.cmp_isNaN_int x W).mono ?_
  rintro _ w' ⟨rfl,rfl⟩
  exact bQ.mk ⟨.refl _,rfl⟩
 have cc1:=fun {W:World} (_:bK w0 W)=>cn (W:=W) (x:=a)
 have cc2:=fun {W:World} (_:bK w0 W)=>cn (W:=W) (x:=b)
 by_cases h1:a < b
 ·rw[show dK a b= -1 by unfold dK;rw[if_pos h1]]
  apply iP
  unfold gV
  have h:=Hp.init [] w0
  refine ce h eY (cc1 h.ext) fun w h=>?_
  refine ce h eY (cc2 h.ext) fun w h=>?_
  refine cf (cf (cy (by omega) (co ?_)))
  exact bQ.mk ⟨h.ext,rfl⟩
 by_cases h2:b < a
 ·rw[show dK a b=1 by unfold dK;rw[if_neg h1,if_pos h2]]
  apply iP
  unfold gV
  have h:=Hp.init [] w0
  refine ce h eY (cc1 h.ext) fun w h=>?_
  refine ce h eY (cc2 h.ext) fun w h=>?_
  refine cf (cf (cD (by omega) (cf (eB (by omega) (co ?_)))))
  exact bQ.mk ⟨h.ext,rfl⟩
 rw[show dK a b=0 by unfold dK;rw[if_neg h1,if_neg h2]]
 apply iP
 unfold gV
 have h:=Hp.init [] w0
 refine ce h eY (cc1 h.ext) fun w h=>?_
 refine ce h eY (cc2 h.ext) fun w h=>?_
 refine cf (cf (cD (by omega) (cf (d9 (by omega) (cf ?_)))))
 exact bQ.mk ⟨h.ext,rfl⟩
def OT(a b:Int):Int:=if a≠0 then a else b
theorem Ti{w0:World}{v:Value}{a b:Int}(hv:dJ w0 1 v 2 [.int .i64 a,.int .i64 b]):Calls prog 134 #[v] w0 (bQ fun r w'=>bK w0 w'/\r=.int .i64 (OT a b)):=by
 have s0:iY [.int .i64 a,.int .i64 b] (0 * 1) [.int .i64 a]:=by
  intro k v hk
  rcases k with _ | k
  ·exact hk
  ·simp at hk
 have s1:iY [.int .i64 a,.int .i64 b] (1 * 1) [.int .i64 b]:=by
  intro k v hk
  rcases k with _ | k
  ·exact hk
  ·simp at hk
 obtain⟨z,hz⟩:∃ z,OT a b=z:=⟨_,rfl⟩
 rw[hz]
 apply CW
 unfold vH
 have h:=Hp.init [] w0
 refine gS (hv.hp h) ?_
 refine jt.mk (fun i W=>∃ j:Nat,j<=2/\i=.int .i64 j/\(1<=j->a=0)/\(2<=j->b=0)/\Hp [] w0 W [])
  (fun i _=>match i with | .int _ i'=>2 - i'.toNat | _=>0) ⟨0,by omega,rfl,by omega,by omega,h⟩ ?_
 clear h
 rintro _ W ⟨j,hj,rfl,ha,hb,h⟩
 rcases(show j=0\/j=1\/j=2 by omega) with rfl | rfl | rfl
 ·by_cases h0:a=0
  ·refine cy (by omega) (co (lU h ‹_› (by omega) fun zb zo zk zv zc=>?_))
   refine Ni h ‹_› ‹_› (by rfl) ?_
   refine cE (by omega) (cf (cF (by omega) (by omega) ?_))
   exact⟨⟨1,by omega,rfl,fun _=>h0,by omega,h⟩,by decide⟩
  ·have e:z=a:=by rw[<-hz];unfold OT;rw[if_pos h0]
   subst e
   refine cy (by omega) (co (lU h ‹_› (by omega) fun zb zo zk zv zc=>?_))
   refine Ni h ‹_› ‹_› (by rfl) ?_
   refine gi (by omega) (co ?_)
   exact bQ.mk ⟨h.ext,rfl⟩
 ·have ha:=ha (by omega)
  by_cases h0:b=0
  ·refine cy (by omega) (co (lU h ‹_› (by omega) fun zb zo zk zv zc=>?_))
   refine Ni h ‹_› ‹_› (by rfl) ?_
   refine cE (by omega) (cf (cF (by omega) (by omega) ?_))
   exact⟨⟨2,by omega,rfl,fun _=>ha,fun _=>h0,h⟩,by decide⟩
  ·have e:z=b:=by rw[<-hz];unfold OT;rw[if_neg (by simp[ha])]
   subst e
   refine cy (by omega) (co (lU h ‹_› (by omega) fun zb zo zk zv zc=>?_))
   refine Ni h ‹_› ‹_› (by rfl) ?_
   refine gi (by omega) (co ?_)
   exact bQ.mk ⟨h.ext,rfl⟩
 ·have e:z=0:=by rw[<-hz];unfold OT;rw[if_neg (by simp[ha (by omega)])];exact hb (by omega)
  subst e
  refine cD (by omega) (cf ?_)
  exact bQ.mk ⟨h.ext,rfl⟩
def Q1(f g:Ft):Int:=OT (dK f.tr g.tr) (dK f.sp g.sp)
abbrev Np(f g:Ft):Prop:=f.tr < g.tr\/(f.tr=g.tr/\f.sp < g.sp)
theorem Fu(f g:Ft):Q1 f g < 0↔Np f g:=by
 unfold Q1 OT Np
 rcases Int.lt_trichotomy f.tr g.tr with h | h | h
 ·rw[iU h,if_pos (by decide)]
  exact⟨fun _=>.inl h,fun _=>by decide⟩
 ·rw[qD h,if_neg (by simp)]
  rcases Int.lt_trichotomy f.sp g.sp with h2 | h2 | h2
  ·rw[iU h2]
   exact⟨fun _=>.inr ⟨h,h2⟩,fun _=>by decide⟩
  ·rw[qD h2]
   exact⟨fun h=>absurd h (by decide),fun h=>by omega⟩
  ·rw[kS h2]
   exact⟨fun h=>absurd h (by decide),fun h=>by omega⟩
 ·rw[kS h,if_pos (by decide)]
  exact⟨fun h=>absurd h (by decide),fun h=>by omega⟩
set_option maxHeartbeats 1000000 in
theorem JT{w0:World}{f g:Ft}:Calls prog 93 #[vF f,vF g] w0 (bQ fun r w'=>bK w0 w'/\r=.int .i64 (Q1 f g)):=by
 have cc1:=fun {W:World} (_:bK w0 W)=>JS (w0:=W) (a:=f.tr) (b:=g.tr)
 have cc2:=fun {W:World} (_:bK w0 W)=>JS (w0:=W) (a:=f.sp) (b:=g.sp)
 apply yh
 unfold qN
 have h:=Hp.init [] w0
 refine ep h fun g1 w h=>?_
 refine ep h fun g2 w h=>?_
 replace h:=h.dr
 refine di (iX h 1 rfl rfl (di (iX h 0 rfl rfl (di (iX h 1 rfl rfl (di (iX h 0 rfl rfl (ce h iQ (cc1 h.ext) fun w h=>?_))))))))
 refine fU h 1 rfl rfl (fU h 0 rfl rfl (ce h iQ (cc2 h.ext) fun w h=>?_))
 refine AH (vs:=[_,_]) h (.cons (by rfl) (by rfl) (.cons (by rfl) (by rfl) .nil)) (by rfl) (by rfl) (by decide) (by decide) (by decide) fun v1 w h=>?_
 refine cu CX (Ti (qZ 0 h rfl)) ?_
 rintro _ w' ⟨x,rfl⟩
 have h:=h.x x
 exact bQ.mk ⟨h.ext,rfl⟩
def HL(l:List Ft):Prop:=∀ i a b,l[i]?=some a->l[i+1]?=some b->Np a b
def tC(l:List Ft):Prop:=l.length<=400/\(∀ f∈l,VF f)/\HL l
open Classical in
noncomputable def Ma(l:List Ft):Bool:=decide (tC l)
theorem rS{l:List Ft}(h:tC l):Ma l=true:=by unfold Ma;simp[h]
theorem qH{l:List Ft}(h:¬tC l):Ma l=false:=by unfold Ma;simp[h]
structure Fk(w:World)(v:Value)(l:List Ft):Prop where
 hv:dJ w 10 v l.length (l.flatMap fF)
 hi:∀ f∈l,FI f
 hl:l.length<=1000000000
theorem Fk.ext{w w':World}{v:Value}{l:List Ft}(h:Fk w v l)(x:bK w w'):Fk w' v l:=⟨h.hv.ext x,h.hi,h.hl⟩
section
variable{w0:World}{v:Value}{l:List Ft}(hF:Fk w0 v l)
include hF
set_option maxHeartbeats 4000000 in
theorem JU(ho:HL l):Calls prog 94 #[v,.func (.func 93) #[] #[]] w0 (bQ fun r w'=>bK w0 w'/\r=.bool true):=by
 obtain⟨hv,hi,hl⟩:=hF
 apply iV
 unfold fB
 have h:=Hp.init [] w0
 refine gS (hv.hp h) ?_
 refine tN (by omega) (by omega) ?_
 refine jt.mk (fun i W=>∃ z:Int,-1<=z/\z < l.length/\i=.int .i64 z/\Hp [] w0 W [])
  (fun i _=>match i with | .int _ i'=>(i'+1).toNat | _=>0) ⟨_,by omega,by omega,rfl,h⟩ ?_
 clear h
 rintro _ W ⟨z,hz0,hz1,rfl,h⟩
 by_cases hz:0 < z
 ·refine Exists.elim (p:=fun k:Nat=>z=((k+1:Nat):Int)) ⟨(z - 1).toNat,by omega⟩ fun k hk=>?_
  subst hk
  refine Exists.elim (p:=fun x=>l[k+1]?=some x) ⟨_,List.getElem?_eq_getElem (by omega)⟩ fun x hx=>?_
  refine Exists.elim (p:=fun x=>l[k]?=some x) ⟨_,List.getElem?_eq_getElem (by omega)⟩ fun y hy=>?_
  have sx:iY (l.flatMap fF) ((k+1) * 10) (fF x):=cZ (f:=fF) (fun _=>rfl) hx
  have sy:iY (l.flatMap fF) ((((k+1:Nat):Int) - 1).toNat * 10) (fF y):=by
   rw[show(((k+1:Nat):Int) - 1).toNat=k by omega]
   exact cZ (f:=fF) (fun _=>rfl) hy
  have hlt:=ho k y x hy hx
  have hn:¬Q1 x y < 0:=fun h=>by
   have:=(Fu x y).1 h
   omega
  have cc1:=fun {W:World} (_:bK w0 W)=>JT (w0:=W) (f:=x) (g:=y)
  refine eB (by omega) (co ?_)
  replace h:=h.dr
  refine nT h ‹_› (by omega) fun zb zo zk zv zc=>?_
  refine EZ h ‹_› ‹_› (by rfl) ?_
  refine py (by omega) (by omega) (rM h ‹_› (by omega) (by omega) fun zb zo zk zv zc=>?_)
  refine EZ h ‹_› ‹_› (by rfl) ?_
  refine Cs h mq (cc1 h.ext) fun w h=>?_
  refine r8 (by omega) (cf (tN (by omega) (by omega) ?_))
  exact⟨⟨_,by omega,by omega,rfl,h⟩,by show((((k+1:Nat):Int) - 1)+1).toNat < (((k+1:Nat):Int)+1).toNat;omega⟩
 ·refine d9 (by omega) (cf ?_)
  exact bQ.mk ⟨h.ext,rfl⟩
set_option maxHeartbeats 4000000 in
theorem JV:Calls prog 58 #[v] w0 (bQ fun r w'=>bK w0 w'/\r=.bool (Ma l)):=by
 have hso:=fun {W:World} (e:bK w0 W) ho=>JU (w0:=W) (hF.ext e) ho
 obtain⟨hv,hi,hl⟩:=hF
 obtain⟨b,hb⟩:∃ b,Ma l=b:=⟨_,rfl⟩
 rw[hb]
 apply uQ
 unfold nD
 have h:=Hp.init [] w0
 refine gS (hv.hp h) ?_
 refine jt.mk (fun i W=>∃ j:Nat,j<=l.length/\i=.int .i64 j/\(∀ x∈l.take j,VF x)/\(∀ i a b,i+1 < j->l[i]?=some a->l[i+1]?=some b->Np a b)/\Hp [] w0 W [])
  (fun i _=>match i with | .int _ i'=>l.length - i'.toNat | _=>0) ⟨0,by omega,rfl,by simp,by omega,h⟩ ?_
 clear h
 rintro _ W ⟨j,hj,rfl,hall,hord,h⟩
 by_cases hjl:j < l.length
 ·refine Exists.elim (p:=fun x=>l[j]?=some x) ⟨_,List.getElem?_eq_getElem hjl⟩ fun x hx=>?_
  have sx:iY (l.flatMap fF) (j * 10) (fF x):=cZ (f:=fF) (fun _=>rfl) hx
  have hxm:=List.mem_of_getElem? hx
  have hvf:=fun {W:World} (_:bK w0 W)=>Th (w0:=W) (hi x hxm)
  by_cases hxv:VF x
  rotate_left
  ·rw[decide_eq_false hxv]at hvf
   have cc1:=@hvf
   have hb:b=false:=by rw[<-hb];exact qH fun h=>hxv (h.2.1 x hxm)
   subst hb
   refine cy (by omega) (co (lU h ‹_› (by omega) fun zb zo zk zv zc=>?_))
   refine wD h ‹_› ‹_› (by rfl) ?_
   refine du h fun g1 w h=>?_
   refine de h 0 rfl rfl rfl rfl fun w h=>?_
   replace h:=h.dr
   refine fu h 0 rfl rfl ?_
   refine ce h iO (cc1 h.ext) fun w h=>?_
   refine xz (cC (cC (cC (ee (ee (ee (ee (ee (ee (CR (ee (cC (cG (co ?_))))))))))))))
   dsimp only[List.set]at h
   exact bQ.mk ⟨h.ext,rfl⟩
  rw[decide_eq_true hxv]at hvf
  have cc1:=@hvf
  have hall':∀ y∈l.take (j+1),VF y:=fun y hy=>by
   rw[iA hx]at hy
   rcases List.mem_append.1 hy with hy | hy
   ·exact hall y hy
   ·rw[List.mem_singleton]at hy;rw[hy];exact hxv
  by_cases hj0:j=0
  ·subst hj0
   refine cy (by omega) (co (lU h ‹_› (by omega) fun zb zo zk zv zc=>?_))
   refine wD h ‹_› ‹_› (by rfl) ?_
   refine du h fun g1 w h=>?_
   refine de h 0 rfl rfl rfl rfl fun w h=>?_
   replace h:=h.dr
   refine fu h 0 rfl rfl ?_
   refine ce h iO (cc1 h.ext) fun w h=>?_
   refine Hb (cg (cg (pZ (by omega) (cg (cw (cw (cw (cw (cw (cw (aK (cw (cg (dh (dh (cf (cF (by omega) (by omega) ?_)))))))))))))))))
   dsimp only[List.set]at h
   exact⟨⟨0+1,by omega,rfl,hall',by omega,h.drop 1⟩,by show l.length - (((0:Nat):Int)+1).toNat < l.length - ((0:Nat):Int).toNat;omega⟩
  refine Exists.elim (p:=fun k:Nat=>j=k+1) ⟨j - 1,by omega⟩ fun k hk=>?_
  subst hk
  refine Exists.elim (p:=fun x=>l[k]?=some x) ⟨_,List.getElem?_eq_getElem (by omega)⟩ fun y hy=>?_
  have sy:iY (l.flatMap fF) ((((k+1:Nat):Int) - 1).toNat * 10) (fF y):=by
   rw[show(((k+1:Nat):Int) - 1).toNat=k by omega]
   exact cZ (f:=fF) (fun _=>rfl) hy
  have cc2:=fun {W:World} (_:bK w0 W)=>JT (w0:=W) (f:=y) (g:=x)
  by_cases hlt:Q1 y x < 0
  ·have hlt2:=(Fu y x).1 hlt
   refine cy (by omega) (co (lU h ‹_› (by omega) fun zb zo zk zv zc=>?_))
   refine wD h ‹_› ‹_› (by rfl) ?_
   refine du h fun g1 w h=>?_
   refine de h 0 rfl rfl rfl rfl fun w h=>?_
   replace h:=h.dr
   refine fu h 0 rfl rfl ?_
   refine ce h iO (cc1 h.ext) fun w h=>?_
   refine Hb (cg (cg (nC (by omega) (cg (bP (bP (bP (py (by omega) (by omega) (bP (rM h ‹_› (by omega) (by omega) fun zb zo zk zv zc=>?_))))))))))
   refine bP (EZ h ‹_› ‹_› (by rfl) ?_)
   refine bP (fu h 0 rfl rfl ?_)
   refine aP (ce h mq (cc2 h.ext) fun w h=>?_)
   refine bP (F0 (by omega) (cg (cG (dh (cf (cF (by omega) (by omega) ?_))))))
   dsimp only[List.set]at h
   refine⟨⟨k+1+1,by omega,rfl,hall',fun i a b hi ha hb=>?_,h.drop 1⟩,by show l.length - (((k+1:Nat):Int)+1).toNat < l.length - ((k+1:Nat):Int).toNat;omega⟩
   by_cases e:i=k
   ·subst e
    rw[hy]at ha
    rw[hx]at hb
    cases ha;cases hb
    exact hlt2
   ·exact hord i a b (by omega) ha hb
  ·have hb:b=false:=by rw[<-hb];exact qH fun h=>hlt ((Fu y x).2 (h.2.2 k y x hy hx))
   subst hb
   refine cy (by omega) (co (lU h ‹_› (by omega) fun zb zo zk zv zc=>?_))
   refine wD h ‹_› ‹_› (by rfl) ?_
   refine du h fun g1 w h=>?_
   refine de h 0 rfl rfl rfl rfl fun w h=>?_
   replace h:=h.dr
   refine fu h 0 rfl rfl ?_
   refine ce h iO (cc1 h.ext) fun w h=>?_
   refine Hb (cg (cg (nC (by omega) (cg (bP (bP (bP (py (by omega) (by omega) (bP (rM h ‹_› (by omega) (by omega) fun zb zo zk zv zc=>?_))))))))))
   refine bP (EZ h ‹_› ‹_› (by rfl) ?_)
   refine bP (fu h 0 rfl rfl ?_)
   refine aP (ce h mq (cc2 h.ext) fun w h=>?_)
   refine bP (zX (by omega) (cg (cG (dh (co ?_)))))
   dsimp only[List.set]at h
   exact bQ.mk ⟨h.ext,rfl⟩
 have e:j=l.length:=by omega
 subst e
 rw[List.take_length]at hall
 have ho:HL l:=fun i a b ha hb=>hord i a b (List.getElem?_eq_some_iff.1 hb).1 ha hb
 by_cases h400:l.length<=400
 ·have hb:b=true:=by rw[<-hb];exact rS ⟨h400,hall,ho⟩
  subst hb
  have cc3:=fun {W:World} (e:bK w0 W)=>hso e ho
  refine cD (by omega) (cf (gS (hv.hp h) ?_))
  refine fp (by omega) (aP (aP (ce h iW (cc3 h.ext) fun w h=>?_)))
  refine aQ ?_
  exact bQ.mk ⟨h.ext,rfl⟩
 ·have hb:b=false:=by rw[<-hb];exact qH fun h=>h400 h.1
  subst hb
  refine cD (by omega) (cf (gS (hv.hp h) ?_))
  refine jg (by omega) (aK (aK (aw ?_)))
  exact bQ.mk ⟨h.ext,rfl⟩
set_option maxHeartbeats 8000000 in
theorem Fv:Calls prog 62 #[v] w0 (bQ fun r w'=>bK w0 w'/\r=.bool (Ma l)):=by
 obtain⟨hv,hi,hl⟩:=hF
 obtain⟨b,hb⟩:∃ b,Ma l=b:=⟨_,rfl⟩
 rw[hb]
 by_cases h400:l.length<=400
 rotate_left
 ·have hb:b=false:=by rw[<-hb];exact qH fun h=>h400 h.1
  subst hb
  apply nF
  unfold ke
  have h:=Hp.init [] w0
  refine gS (hv.hp h) ?_
  refine eB (by omega) (co ?_)
  exact bQ.mk ⟨h.ext,rfl⟩
 apply nF
 unfold ke
 have h:=Hp.init [] w0
 refine gS (hv.hp h) ?_
 refine d9 (by omega) (cf ?_)
 refine jt.mk (fun i W=>∃ j:Nat,j<=l.length/\i=.int .i64 j/\(∀ x∈l.take j,VF x)/\(∀ i a b,i+1 < j->l[i]?=some a->l[i+1]?=some b->Np a b)/\Hp [] w0 W [])
  (fun i _=>match i with | .int _ i'=>l.length - i'.toNat | _=>0) ⟨0,by omega,rfl,by simp,by omega,h⟩ ?_
 clear h
 rintro _ W ⟨j,hj,rfl,hall,hord,h⟩
 by_cases hjl:j < l.length
 ·refine Exists.elim (p:=fun x=>l[j]?=some x) ⟨_,List.getElem?_eq_getElem hjl⟩ fun x hx=>?_
  have sx:iY (l.flatMap fF) (j * 10) (fF x):=cZ (f:=fF) (fun _=>rfl) hx
  have hxm:=List.mem_of_getElem? hx
  have hvf:=fun {W:World} (_:bK w0 W)=>Q0 (w0:=W) (hi x hxm)
  by_cases hxv:VF x
  rotate_left
  ·rw[decide_eq_false hxv]at hvf
   have cc1:=@hvf
   have hb:b=false:=by rw[<-hb];exact qH fun h=>hxv (h.2.1 x hxm)
   subst hb
   refine gS (hv.hp h) ?_
   refine cy (by omega) (co (lU h ‹_› (by omega) fun zb zo zk zv zc=>?_))
   refine wD h ‹_› ‹_› (by rfl) ?_
   refine ce h fQ (cc1 h.ext) fun w h=>?_
   refine d7 (co ?_)
   exact bQ.mk ⟨h.ext,rfl⟩
  rw[decide_eq_true hxv]at hvf
  have cc1:=@hvf
  have hall':∀ y∈l.take (j+1),VF y:=fun y hy=>by
   rw[iA hx]at hy
   rcases List.mem_append.1 hy with hy | hy
   ·exact hall y hy
   ·rw[List.mem_singleton]at hy;rw[hy];exact hxv
  by_cases hj0:j=0
  ·subst hj0
   refine gS (hv.hp h) ?_
   refine cy (by omega) (co (lU h ‹_› (by omega) fun zb zo zk zv zc=>?_))
   refine wD h ‹_› ‹_› (by rfl) ?_
   refine ce h fQ (cc1 h.ext) fun w h=>?_
   refine ct (cf ?_)
   replace h:=h.dr
   refine pZ (by omega) (cw (cw (cw (cw (cw (cw (cw (cw (cw (cw (cw (cw (cw (ee (ee (ee (ee (ee (ee (ee (ee (ee (ee (ee (ee (ee (ee (ee (ee (ee (ee (ee (ee (ee (ee (ee (ee (ee (ee ?_)))))))))))))))))))))))))))))))))))))))
   refine cw (dh (cf (cF (by omega) (by omega) ?_)))
   exact⟨⟨0+1,by omega,rfl,hall',by omega,h⟩,by show l.length - (((0:Nat):Int)+1).toNat < l.length - ((0:Nat):Int).toNat;omega⟩
  refine Exists.elim (p:=fun k:Nat=>j=k+1) ⟨j - 1,by omega⟩ fun k hk=>?_
  subst hk
  refine Exists.elim (p:=fun x=>l[k]?=some x) ⟨_,List.getElem?_eq_getElem (by omega)⟩ fun y hy=>?_
  have sy:iY (l.flatMap fF) ((((k+1:Nat):Int) - 1).toNat * 10) (fF y):=by
   rw[show(((k+1:Nat):Int) - 1).toNat=k by omega]
   exact cZ (f:=fF) (fun _=>rfl) hy
  have KQ:¬Np y x->b=false:=fun hn=>by rw[<-hb];exact qH fun h=>hn (h.2.2 k y x hy hx)
  have good:Np y x->∀ i a b,i+1 < k+1+1->l[i]?=some a->l[i+1]?=some b->Np a b:=fun hlt i a b hi ha hb=>by
   by_cases e:i=k
   ·subst e
    rw[hy]at ha
    rw[hx]at hb
    cases ha;cases hb
    exact hlt
   ·exact hord i a b (by omega) ha hb
  by_cases q1:x.tr < y.tr
  ·have hb:=KQ (by omega)
   subst hb
   refine gS (hv.hp h) ?_
   refine cy (by omega) (co (lU h ‹_› (by omega) fun zb zo zk zv zc=>?_))
   refine wD h ‹_› ‹_› (by rfl) ?_
   refine ce h fQ (cc1 h.ext) fun w h=>?_
   refine ct (cf ?_)
   replace h:=h.dr
   refine nC (by omega) (bP (bP (bP (nT h ‹_› (by omega) fun zb zo zk zv zc=>?_))))
   refine bP (di (bP (pT h ‹_› ‹_› (by rfl) ?_)))
   refine bP (bP (bP (py (by omega) (by omega) (bP (rM h ‹_› (by omega) (by omega) fun zb zo zk zv zc=>?_)))))
   refine bP (di (bP (pT h ‹_› ‹_› (by rfl) ?_)))
   refine bP (Ky (by omega) (bP (cC (cC (cC (cC (cC (cC (cC (cC (cC (cC (cC (cC (cC (ee (ee (ee (ee (ee (ee (ee (ee (ee (ee (ee (ee (cC (bP (cG (cG (co ?_))))))))))))))))))))))))))))))))
   exact bQ.mk ⟨h.ext,rfl⟩
  by_cases q2:x.tr=y.tr
  ·by_cases q3:x.sp<=y.sp
   ·have hb:=KQ (by omega)
    subst hb
    refine gS (hv.hp h) ?_
    refine cy (by omega) (co (lU h ‹_› (by omega) fun zb zo zk zv zc=>?_))
    refine wD h ‹_› ‹_› (by rfl) ?_
    refine ce h fQ (cc1 h.ext) fun w h=>?_
    refine ct (cf ?_)
    replace h:=h.dr
    refine nC (by omega) (bP (bP (bP (nT h ‹_› (by omega) fun zb zo zk zv zc=>?_))))
    refine bP (di (bP (pT h ‹_› ‹_› (by rfl) ?_)))
    refine bP (bP (bP (py (by omega) (by omega) (bP (rM h ‹_› (by omega) (by omega) fun zb zo zk zv zc=>?_)))))
    refine bP (di (bP (pT h ‹_› ‹_› (by rfl) ?_)))
    refine bP (r8 (by omega) (bP (cg (cg (cg (nT h ‹_› (by omega) fun zb zo zk zv zc=>?_))))))
    refine cg (di (cg (pT h ‹_› ‹_› (by rfl) ?_)))
    refine cg (cg (cg (py (by omega) (by omega) (cg (rM h ‹_› (by omega) (by omega) fun zb zo zk zv zc=>?_)))))
    refine cg (di (cg (pT h ‹_› ‹_› (by rfl) ?_)))
    refine cg (jh (by omega) (cg (bP (bP (bP (nT h ‹_› (by omega) fun zb zo zk zv zc=>?_))))))
    refine bP (di (bP (pT h ‹_› ‹_› (by rfl) ?_)))
    refine bP (bP (bP (py (by omega) (by omega) (bP (rM h ‹_› (by omega) (by omega) fun zb zo zk zv zc=>?_)))))
    refine bP (di (bP (pT h ‹_› ‹_› (by rfl) ?_)))
    refine bP (oK (by omega) (cg (cG (bP (dh (cG (co ?_)))))))
    exact bQ.mk ⟨h.ext,rfl⟩
   ·have hg:=good (by omega)
    refine gS (hv.hp h) ?_
    refine cy (by omega) (co (lU h ‹_› (by omega) fun zb zo zk zv zc=>?_))
    refine wD h ‹_› ‹_› (by rfl) ?_
    refine ce h fQ (cc1 h.ext) fun w h=>?_
    refine ct (cf ?_)
    replace h:=h.dr
    refine nC (by omega) (bP (bP (bP (nT h ‹_› (by omega) fun zb zo zk zv zc=>?_))))
    refine bP (di (bP (pT h ‹_› ‹_› (by rfl) ?_)))
    refine bP (bP (bP (py (by omega) (by omega) (bP (rM h ‹_› (by omega) (by omega) fun zb zo zk zv zc=>?_)))))
    refine bP (di (bP (pT h ‹_› ‹_› (by rfl) ?_)))
    refine bP (r8 (by omega) (bP (cg (cg (cg (nT h ‹_› (by omega) fun zb zo zk zv zc=>?_))))))
    refine cg (di (cg (pT h ‹_› ‹_› (by rfl) ?_)))
    refine cg (cg (cg (py (by omega) (by omega) (cg (rM h ‹_› (by omega) (by omega) fun zb zo zk zv zc=>?_)))))
    refine cg (di (cg (pT h ‹_› ‹_› (by rfl) ?_)))
    refine cg (jh (by omega) (cg (bP (bP (bP (nT h ‹_› (by omega) fun zb zo zk zv zc=>?_))))))
    refine bP (di (bP (pT h ‹_› ‹_› (by rfl) ?_)))
    refine bP (bP (bP (py (by omega) (by omega) (bP (rM h ‹_› (by omega) (by omega) fun zb zo zk zv zc=>?_)))))
    refine bP (di (bP (pT h ‹_› ‹_› (by rfl) ?_)))
    refine bP (wU (by omega) (cg (cG (bP (dh (cG (cf (cF (by omega) (by omega) ?_))))))))
    exact⟨⟨k+1+1,by omega,rfl,hall',hg,h⟩,by show l.length - (((k+1:Nat):Int)+1).toNat < l.length - ((k+1:Nat):Int).toNat;omega⟩
  ·have hg:=good (by omega)
   refine gS (hv.hp h) ?_
   refine cy (by omega) (co (lU h ‹_› (by omega) fun zb zo zk zv zc=>?_))
   refine wD h ‹_› ‹_› (by rfl) ?_
   refine ce h fQ (cc1 h.ext) fun w h=>?_
   refine ct (cf ?_)
   replace h:=h.dr
   refine nC (by omega) (bP (bP (bP (nT h ‹_› (by omega) fun zb zo zk zv zc=>?_))))
   refine bP (di (bP (pT h ‹_› ‹_› (by rfl) ?_)))
   refine bP (bP (bP (py (by omega) (by omega) (bP (rM h ‹_› (by omega) (by omega) fun zb zo zk zv zc=>?_)))))
   refine bP (di (bP (pT h ‹_› ‹_› (by rfl) ?_)))
   refine bP (r8 (by omega) (bP (cg (cg (cg (nT h ‹_› (by omega) fun zb zo zk zv zc=>?_))))))
   refine cg (di (cg (pT h ‹_› ‹_› (by rfl) ?_)))
   refine cg (cg (cg (py (by omega) (by omega) (cg (rM h ‹_› (by omega) (by omega) fun zb zo zk zv zc=>?_)))))
   refine cg (di (cg (pT h ‹_› ‹_› (by rfl) ?_)))
   refine cg (FY (by omega) (cg (cw (cw (cw (cw (cw (cw (cw (cw (cw (cw (cw (cw (cg (dh (bP (dh (cG (cf (cF (by omega) (by omega) ?_)))))))))))))))))))))
   exact⟨⟨k+1+1,by omega,rfl,hall',hg,h⟩,by show l.length - (((k+1:Nat):Int)+1).toNat < l.length - ((k+1:Nat):Int).toNat;omega⟩
 have e:j=l.length:=by omega
 subst e
 rw[List.take_length]at hall
 have ho:HL l:=fun i a b ha hb=>hord i a b (List.getElem?_eq_some_iff.1 hb).1 ha hb
 have hb:b=true:=by rw[<-hb];exact rS ⟨h400,hall,ho⟩
 subst hb
 refine gS (hv.hp h) ?_
 refine cD (by omega) (cf ?_)
 exact bQ.mk ⟨h.ext,rfl⟩
end
end Go.Proofs.YtnkmbjedcjcccaaGreatDoor
namespace Go.Proofs.YtnkmbjedcjcccaaGreatDoor
open Tryz
open Go Go.Eng Go.Proofs Go.Num Go.RowKit
open Go.Alm (Ft Wt Sm VW VA dn gO)
set_option maxRecDepth 100000
theorem Ul{a b:Value}:(#[]:Array Value)++#[a]++#[b]=#[a,b]:=by simp
theorem Tj{a b c:Value}:(#[]:Array Value)++#[a]++#[b,c]=#[a,b,c]:=by simp
theorem JW{x:Rat}(hx:SR 99 99 x):ko false 12 x=rQ (dn x):=by
 have hB:RB x:=hx.rb (by decide) (by decide)
 have h1:(x.num * rB 12).natAbs < cr:=by
  have h2:=Sz.mul hx.1 (show Sz 13 (rB 12) by unfold Sz;decide)
  exact h2.max (by decide)
 have eN:vf false x 12=(x.num * rB 12) / (x.den:Int):=by
  unfold vf
  rw[if_neg (by simp)]
 unfold ko
 rw[if_pos ⟨⟨by decide,by decide⟩,h1,by rw[eN];exact je h1⟩,eN]
 congr 1
 rw[Alm.RV]
 rfl
section
variable{w:World}{x:Rat}
theorem OU(hx:SR 99 99 x)(hT:kA w):Calls prog 60 #[vR (tx x),.int .i64 12] w (bQ fun r w'=>bK w w'/\r=.tuple #[vR (tx (dn x)),.int .i64 0]):=by
 have hB:RB x:=hx.rb (by decide) (by decide)
 have:=Mj (w:=w) (k:=12) (cv hB.n) (cv hB.d) hT
 rw[s7 hB,JW hx]at this
 exact this
theorem OV(hx:SR 99 99 x):Calls prog 99 #[vR (tx x),.int .i64 12] w (bQ fun r w'=>bK w w'/\r=.tuple #[vR (tx (dn x)),.int .i64 0]):=by
 have hB:RB x:=hx.rb (by decide) (by decide)
 have:=Ml (w:=w) (k:=12) (cv hB.n) (cv hB.d)
 rw[s7 hB,JW hx]at this
 exact this
end
abbrev xL(late:Bool):Rat:=if late then 1 else 0
theorem JX(late:Bool):SR 1 1 (xL late):=by
 cases late
 ·exact⟨by unfold Sz;decide,by unfold Sz;decide⟩
 ·exact⟨by unfold Sz;decide,by unfold Sz;decide⟩
theorem Fw:SR 1 1 (1:Rat):=⟨by unfold Sz;decide,by unfold Sz;decide⟩
section
variable{w:Wt}(sm:Sm 1 w.mu)(sb:Sm 1000 w.bet)
include sm sb
theorem OW(late:Bool):SR 6 5 (xL late - w.mu):=SR.sub (k:=5) (JX late) (Sm.sr1 sm) (by decide) (by decide)
theorem OX(late:Bool):SR 13 9 (w.bet * (xL late - w.mu)):=SR.mul (Sm.sr3 sb) (OW sm sb late)
theorem OY(late:Bool):SR 15 10 (gO w late):=SR.add (k:=14) Fw (OX sm sb late) (by decide) (by decide)
end
abbrev U5:TypeId:=101
section
variable{w0:World}{b gr o:Nat}{w:Wt}(hE:En w0)(sm:Sm 1 w.mu)(sb:Sm 1000 w.bet)
include hE sm sb
set_option maxHeartbeats 2000000 in
theorem JY(hb:cM w0 b U5 [pr gr o])(hc:dj w0 gr o (fW (wr w)))(late:Bool):Calls prog 95 #[vR (tx (xL late)),pr b 0] w0 (bQ fun r w'=>bK w0 w'/\r=vR (tx (gO w late))):=by
 have z1:=hE.z1
 have sg3:iY (fW (wr w)) 3 [bh (tx w.mu).1,bh (tx w.mu).2]:=by
  intro k v hk
  rcases k with _ | _ | k
  ·exact hk
  ·exact hk
  ·simp at hk
 have sg7:iY (fW (wr w)) 7 [bh (tx w.bet).1,bh (tx w.bet).2]:=by
  intro k v hk
  rcases k with _ | _ | k
  ·exact hk
  ·exact hk
  ·simp at hk
 have cc1:=fun {W:World} (e:bK w0 W)=>M8 (w:=W) (k:=5) (JX late) (Sm.sr1 sm) (by decide) (by decide) (by decide) (by decide) (hE.hT.ext e)
 have cc2:=fun {W:World} (e:bK w0 W)=>GH (w:=W) (Sm.sr3 sb) (OW sm sb late) (by decide) (by decide) (hE.hT.ext e)
 have cc3:∀ {W:World},bK w0 W->Calls prog 35 #[.agg #[bh [49],bh [49]],vR (tx (w.bet * (xL late - w.mu)))] W (bQ fun r w'=>bK W w'/\r=.tuple #[vR (tx (gO w late)),.int .i64 0]):=fun {W} e=>by
  have:=M7 (w:=W) (k:=14) Fw (OX sm sb late) (by decide) (by decide) (by decide) (by decide) (hE.hT.ext e)
  rw[Oe]at this
  exact this
 have cc4:=fun {W:World} (_:bK w0 W) {x:Rat}=>wB (w:=W) (p:=tx x)
 apply Bm
 unfold uv
 have h:=Hp.init [] w0
 refine ep h fun g1 w h=>?_
 refine du h fun g2 w h=>?_
 replace h:=h.dr
 refine uK h ‹_› (by rfl) ?_
 refine LW h ‹_› (by rfl) ?_
 refine hH ?_
 refine di (EZ h ‹_› ‹_› (by rfl) ?_)
 refine fu h 1 rfl rfl ?_
 refine LW h ‹_› (by rfl) ?_
 refine hH ?_
 refine di (EZ h ‹_› ‹_› (by rfl) ?_)
 refine ce h sh (cc1 h.ext) fun w h=>?_
 refine eT h ‹_› (by rfl) ?_
 refine QI h ‹_› (by rfl) ?_
 refine SS h ‹_› ‹_› (by rfl) ?_
 refine uP (ce h ew (cc4 h.ext) fun w h=>?_)
 refine eT h ‹_› (by rfl) ?_
 refine QI h ‹_› (by rfl) ?_
 refine SS h ‹_› ‹_› (by rfl) ?_
 refine ce h gB (cc2 h.ext) fun w h=>?_
 refine eT h ‹_› (by rfl) ?_
 refine uP (ce h ew (cc4 h.ext) fun w h=>?_)
 refine eT h ‹_› (by rfl) ?_
 refine ce h sB (cc3 h.ext) fun w h=>?_
 refine uP (ce h ew (cc4 h.ext) fun w h=>?_)
 refine de h 0 rfl rfl rfl rfl fun w h=>?_
 refine mj h 0 rfl rfl ?_
 dsimp only[List.set]at h
 exact bQ.mk ⟨h.ext,rfl⟩
theorem OZ{g1 g2:Nat}{p q:RS}{W:World}(h1:cM W g1 tR (fR p))(h2:cM W g2 tR (fR q))(late:Bool):Calls prog 96 #[.bool late,pr g1 0,pr g2 0] W (bQ fun r w'=>bK W w'/\r=vR (if late then p else q)):=by
 cases late with
 | false=>
  apply uw
  unfold pd
  have h:=Hp.init [] W
  refine du h fun g3 w h=>?_
  refine cf (uJ h ‹_› (by rfl) ?_)
  refine de h 0 rfl rfl rfl rfl fun w h=>?_
  refine mj h 0 rfl rfl ?_
  dsimp only[List.set]at h
  exact bQ.mk ⟨h.ext,rfl⟩
 | true=>
  apply uw
  unfold pd
  have h:=Hp.init [] W
  refine du h fun g3 w h=>?_
  refine co (uJ h ‹_› (by rfl) ?_)
  refine de h 0 rfl rfl rfl rfl fun w h=>?_
  refine mj h 0 rfl rfl ?_
  dsimp only[List.set]at h
  exact bQ.mk ⟨h.ext,rfl⟩
set_option maxHeartbeats 4000000 in
theorem Q2(hc:dj w0 gr o (fW (wr w))):Calls prog 59 #[pr gr o] w0 (bQ fun r w'=>∃ g1 g2,r=.func (.func 96) #[] #[pr g1 0,pr g2 0]/\Hp [] w0 w' [bx g1 tR (fR (tx (gO w true))),bx g2 tR (fR (tx (gO w false)))]):=by
 suffices main:∀(R:Ending->World->Prop),(∀ g1 g2 W,Hp [] w0 W [bx g1 tR (fR (tx (gO w true))),bx g2 tR (fR (tx (gO w false)))]->R (.returned (.func (.func 96) #[] #[pr g1 0,pr g2 0])) W)->sM prog (pr gr o) w0 R from
  Ez (main _ fun g1 g2 W h=>bQ.mk ⟨g1,g2,rfl,h⟩)
 intro R lf1
 have hE0:=hE
 unfold sM
 have h:=Hp.init [] w0
 refine Ue h rfl fun g w h=>?_
 have x:=h.ext
 have hb:=(h.get (i:=0) rfl:cM _ _ _ _)
 obtain⟨p0,hp0⟩:∃ p:RS,p=([48],[49]):=⟨_,rfl⟩
 obtain⟨p1,hp1⟩:∃ p:RS,p=([49],[49]):=⟨_,rfl⟩
 have z0:cM w 1 25 [bh p0.1,bh p0.2]:=by rw[hp0];exact(hE.ext x).z0
 have z1:cM w 0 25 [bh p1.1,bh p1.2]:=by rw[hp1];exact(hE.ext x).z1
 have lf2:=fun g1 g2 W (h':Hp [] w W [bx g1 tR (fR (tx (gO _ true))),bx g2 tR (fR (tx (gO _ false)))])=>lf1 g1 g2 W ((h.cat2 h' xu xu).pick [0,1] (by decide) rfl)
 have hc:=dj.ext hc x
 have hE:=hE.ext x
 have cc1:∀ {W:World},bK w W->Calls prog 95 ((#[]:Array Value)++#[vR p1]++#[pr g 0]) W (bQ fun r w'=>bK W w'/\r=vR (tx (gO _ true))):=fun {W} e=>by
  have:=JY (hE.ext e) sm sb (hb.ext e) (dj.ext hc e) true
  rw[show tx (xL true)=p1 by rw[hp1];exact Oe]at this
  rw[Ul]
  exact this
 have cc2:∀ {W:World},bK w W->Calls prog 95 ((#[]:Array Value)++#[vR p0]++#[pr g 0]) W (bQ fun r w'=>bK W w'/\r=vR (tx (gO _ false))):=fun {W} e=>by
  have:=JY (hE.ext e) sm sb (hb.ext e) (dj.ext hc e) false
  rw[show tx (xL false)=p0 by rw[hp0];exact M6]at this
  rw[Ul]
  exact this
 clear hp0 hp1
 clear lf1 h
 have h:=Hp.init [] w
 replace h:=h.dr
 refine uK h ‹_› (by rfl) ?_
 refine uK h ‹_› (by rfl) ?_
 refine⟨?_,?_⟩
 refine Cs h dA (cc1 h.ext) fun w h=>?_
 refine eT h ‹_› (by rfl) ?_
 refine⟨?_,?_⟩
 refine Cs h dA (cc2 h.ext) fun w h=>?_
 refine⟨?_,?_⟩
 refine du h fun g1 w h=>?_
 refine eT h ‹_› (by rfl) ?_
 refine eT h ‹_› (by rfl) ?_
 refine du h fun g2 w h=>?_
 refine eT h ‹_› (by rfl) ?_
 refine eT h ‹_› (by rfl) ?_
 refine de h 1 rfl rfl rfl rfl fun w h=>?_
 refine de h 0 rfl rfl rfl rfl fun w h=>?_
 exact lf2 _ _ _ (h.pick [1,0] (by decide) rfl)
 refine du h fun g1 w h=>?_
 refine eT h ‹_› (by rfl) ?_
 refine eT h ‹_› (by rfl) ?_
 refine du h fun g2 w h=>?_
 refine eT h ‹_› (by rfl) ?_
 refine eT h ‹_› (by rfl) ?_
 refine de h 0 rfl rfl rfl rfl fun w h=>?_
 refine de h 1 rfl rfl rfl rfl fun w h=>?_
 exact lf2 _ _ _ h
 refine⟨?_,?_⟩
 refine du h fun g1 w h=>?_
 refine eT h ‹_› (by rfl) ?_
 refine eT h ‹_› (by rfl) ?_
 refine⟨?_,?_⟩
 refine Cs h dA (cc2 h.ext) fun w h=>?_
 refine du h fun g2 w h=>?_
 refine eT h ‹_› (by rfl) ?_
 refine eT h ‹_› (by rfl) ?_
 refine de h 1 rfl rfl rfl rfl fun w h=>?_
 refine de h 0 rfl rfl rfl rfl fun w h=>?_
 exact lf2 _ _ _ (h.pick [1,0] (by decide) rfl)
 refine du h fun g2 w h=>?_
 refine eT h ‹_› (by rfl) ?_
 refine eT h ‹_› (by rfl) ?_
 refine Cs h dA (cc2 h.ext) fun w h=>?_
 refine de h 1 rfl rfl rfl rfl fun w h=>?_
 refine de h 0 rfl rfl rfl rfl fun w h=>?_
 exact lf2 _ _ _ (h.pick [1,0] (by decide) rfl)
 refine du h fun g1 w h=>?_
 refine eT h ‹_› (by rfl) ?_
 refine eT h ‹_› (by rfl) ?_
 refine⟨?_,?_⟩
 refine Cs h dA (cc2 h.ext) fun w h=>?_
 refine du h fun g2 w h=>?_
 refine eT h ‹_› (by rfl) ?_
 refine eT h ‹_› (by rfl) ?_
 refine de h 0 rfl rfl rfl rfl fun w h=>?_
 refine de h 1 rfl rfl rfl rfl fun w h=>?_
 exact lf2 _ _ _ h
 refine du h fun g2 w h=>?_
 refine eT h ‹_› (by rfl) ?_
 refine eT h ‹_› (by rfl) ?_
 refine Cs h dA (cc2 h.ext) fun w h=>?_
 refine de h 0 rfl rfl rfl rfl fun w h=>?_
 refine de h 1 rfl rfl rfl rfl fun w h=>?_
 exact lf2 _ _ _ h
 refine⟨?_,?_⟩
 refine du h fun g1 w h=>?_
 refine eT h ‹_› (by rfl) ?_
 refine eT h ‹_› (by rfl) ?_
 refine⟨?_,?_⟩
 refine Cs h dA (cc1 h.ext) fun w h=>?_
 refine eT h ‹_› (by rfl) ?_
 refine⟨?_,?_⟩
 refine Cs h dA (cc2 h.ext) fun w h=>?_
 refine du h fun g2 w h=>?_
 refine eT h ‹_› (by rfl) ?_
 refine eT h ‹_› (by rfl) ?_
 refine de h 1 rfl rfl rfl rfl fun w h=>?_
 refine de h 0 rfl rfl rfl rfl fun w h=>?_
 exact lf2 _ _ _ (h.pick [1,0] (by decide) rfl)
 refine du h fun g2 w h=>?_
 refine eT h ‹_› (by rfl) ?_
 refine eT h ‹_› (by rfl) ?_
 refine Cs h dA (cc2 h.ext) fun w h=>?_
 refine de h 1 rfl rfl rfl rfl fun w h=>?_
 refine de h 0 rfl rfl rfl rfl fun w h=>?_
 exact lf2 _ _ _ (h.pick [1,0] (by decide) rfl)
 refine du h fun g2 w h=>?_
 refine eT h ‹_› (by rfl) ?_
 refine eT h ‹_› (by rfl) ?_
 refine Cs h dA (cc1 h.ext) fun w h=>?_
 refine eT h ‹_› (by rfl) ?_
 refine Cs h dA (cc2 h.ext) fun w h=>?_
 refine de h 1 rfl rfl rfl rfl fun w h=>?_
 refine de h 0 rfl rfl rfl rfl fun w h=>?_
 exact lf2 _ _ _ (h.pick [1,0] (by decide) rfl)
 refine du h fun g1 w h=>?_
 refine eT h ‹_› (by rfl) ?_
 refine eT h ‹_› (by rfl) ?_
 refine⟨?_,?_⟩
 refine Cs h dA (cc1 h.ext) fun w h=>?_
 refine eT h ‹_› (by rfl) ?_
 refine⟨?_,?_⟩
 refine Cs h dA (cc2 h.ext) fun w h=>?_
 refine du h fun g2 w h=>?_
 refine eT h ‹_› (by rfl) ?_
 refine eT h ‹_› (by rfl) ?_
 refine de h 0 rfl rfl rfl rfl fun w h=>?_
 refine de h 1 rfl rfl rfl rfl fun w h=>?_
 exact lf2 _ _ _ h
 refine du h fun g2 w h=>?_
 refine eT h ‹_› (by rfl) ?_
 refine eT h ‹_› (by rfl) ?_
 refine Cs h dA (cc2 h.ext) fun w h=>?_
 refine de h 0 rfl rfl rfl rfl fun w h=>?_
 refine de h 1 rfl rfl rfl rfl fun w h=>?_
 exact lf2 _ _ _ h
 refine du h fun g2 w h=>?_
 refine eT h ‹_› (by rfl) ?_
 refine eT h ‹_› (by rfl) ?_
 refine Cs h dA (cc1 h.ext) fun w h=>?_
 refine eT h ‹_› (by rfl) ?_
 refine Cs h dA (cc2 h.ext) fun w h=>?_
 refine de h 0 rfl rfl rfl rfl fun w h=>?_
 refine de h 1 rfl rfl rfl rfl fun w h=>?_
 exact lf2 _ _ _ h
end
theorem GW{n:Int}{w:Wt}(h:VW n w)(hr:w.ru=false)(late:Bool):SR 34 23 (w.we * gO w late)/\SR 19 13 (dn (w.we * gO w late)):=by
 have s1:=SR.mul (zi h.we0 h.we1 h.wd) (OY h.mu h.bet late)
 have h2:=h.look hr late
 exact⟨s1,zi h2.we0 h2.we1 h2.wd⟩
set_option maxHeartbeats 8000000 in
theorem JZ{w0:World}{wt:Wt}{n:Int}(hV:VW n wt)(hn:n<=100000000)(hr:wt.ru=false)(late:Bool):Calls prog 63 #[vW (wr wt),.bool late] w0 (bQ fun r w'=>bK w0 w'/\r=vW (wr (Alm.look wt late))):=by
 have sm:=hV.mu
 have sb:=hV.bet
 have s1:=GW hV hr late
 have hsn:=hV.sn
 have cc0:∀ {W:World},bK w0 W->Calls prog 55 #[.int .i64 0,.int .i64 1] W (bQ fun r w'=>bK W w'/\r=vR (tx (xL false))):=fun {W} _=>mh (w:=W) (n:=0) (by decide)
 have cc1:∀ {W:World},bK w0 W->Calls prog 55 #[.int .i64 1,.int .i64 1] W (bQ fun r w'=>bK W w'/\r=vR (tx (xL true))):=fun {W} _=>mh (w:=W) (n:=1) (by decide)
 have cc2:=fun {W:World} (_:bK w0 W)=>Jo (w0:=W) (k:=5) (JX late) (Sm.sr1 sm) (by decide) (by decide) (by decide) (by decide)
 have cc3:=fun {W:World} (_:bK w0 W)=>Cm (w0:=W) (Sm.sr3 sb) (OW sm sb late) (by decide) (by decide)
 have cc4:∀ {W:World},bK w0 W->Calls prog 87 #[vR (tx (xL true)),vR (tx (wt.bet * (xL late - wt.mu)))] W (bQ fun r w'=>bK W w'/\r=vR (tx (gO wt late))):=fun {W} _=>Jn (w0:=W) (k:=14) Fw (OX sm sb late) (by decide) (by decide) (by decide) (by decide)
 have cc5:=fun {W:World} (_:bK w0 W)=>Cm (w0:=W) (zi hV.we0 hV.we1 hV.wd) (OY sm sb late) (by decide) (by decide)
 have cc6:=fun {W:World} (_:bK w0 W)=>OV (w:=W) (s1.1.mono (by decide) (by decide))
 have cc7:=fun {W:World} (_:bK w0 W)=>Jp (w0:=W) s1.2 (Sm.sr1 hV.al)
 obtain⟨wn,hwn⟩:∃ b,Alm.Dn (dn (wt.we * gO wt late)) wt.al=b:=⟨_,rfl⟩
 rw[hwn]at cc7
 have e7:wr (Alm.look wt late)=⟨wt.op,wt.ve,wt.lim,tx wt.mu,tx wt.al,tx wt.bet,wt.st,wt.th,wt.sn+1,tx (dn (wt.we * gO wt late)),wn⟩:=by rw[<-hwn];rfl
 rw[e7]
 clear e7 hwn
 cases late with
 | false=>
  apply sP
  unfold nM
  have h:=Hp.init [] w0
  refine ep h fun g1 w h=>?_
  refine du h fun g2 w h=>?_
  refine ce h cq (cc0 h.ext) fun w h=>?_
  refine du h fun g3 w h=>?_
  refine de h 0 rfl rfl rfl rfl fun w h=>?_
  dsimp only[List.set]at h
  refine Iu.mk ?_
  intro K hK
  refine cf (hK _ ?_)
  clear hK
  refine mE.lfb tR (fR (tx (gO wt false))) h (fun K lf1=>?_) (fun gx w h=>?_)
  ·replace h:=h.dr
   refine di (fu h 2 rfl rfl ?_)
   refine fu h 0 rfl rfl ?_
   refine di (fu h 2 rfl rfl ?_)
   refine⟨?_,?_⟩
   refine ce h cq (cc1 h.ext) fun w h=>?_
   refine cP h 2 rfl rfl ?_
   refine cP h 0 rfl rfl ?_
   refine cP h 2 rfl rfl ?_
   refine⟨?_,?_⟩
   refine ce h jo (cc2 h.ext) fun w h=>?_
   refine cP h 2 rfl rfl ?_
   refine⟨?_,?_⟩
   refine ce h dN (cc3 h.ext) fun w h=>?_
   refine⟨?_,?_⟩
   refine ce h fK (cc4 h.ext) fun w h=>?_
   refine du h fun g4 w h=>?_
   refine cP h 3 rfl rfl ?_
   refine cP h 1 rfl rfl ?_
   refine cP h 3 rfl rfl ?_
   refine de h 0 rfl rfl rfl rfl fun w h=>?_
   exact lf1 _ _ h
   refine du h fun g4 w h=>?_
   refine cP h 3 rfl rfl ?_
   refine cP h 1 rfl rfl ?_
   refine cP h 3 rfl rfl ?_
   refine ce h fK (cc4 h.ext) fun w h=>?_
   refine de h 0 rfl rfl rfl rfl fun w h=>?_
   exact lf1 _ _ h
   refine du h fun g4 w h=>?_
   refine cP h 3 rfl rfl ?_
   refine cP h 1 rfl rfl ?_
   refine cP h 3 rfl rfl ?_
   refine ce h dN (cc3 h.ext) fun w h=>?_
   refine ce h fK (cc4 h.ext) fun w h=>?_
   refine de h 0 rfl rfl rfl rfl fun w h=>?_
   exact lf1 _ _ h
   refine du h fun g4 w h=>?_
   refine cP h 3 rfl rfl ?_
   refine cP h 1 rfl rfl ?_
   refine cP h 3 rfl rfl ?_
   refine ce h jo (cc2 h.ext) fun w h=>?_
   refine cP h 3 rfl rfl ?_
   refine ce h dN (cc3 h.ext) fun w h=>?_
   refine ce h fK (cc4 h.ext) fun w h=>?_
   refine de h 0 rfl rfl rfl rfl fun w h=>?_
   exact lf1 _ _ h
   refine du h fun g4 w h=>?_
   refine cP h 3 rfl rfl ?_
   refine cP h 1 rfl rfl ?_
   refine cP h 3 rfl rfl ?_
   refine ce h cq (cc1 h.ext) fun w h=>?_
   refine cP h 3 rfl rfl ?_
   refine cP h 1 rfl rfl ?_
   refine cP h 3 rfl rfl ?_
   refine ce h jo (cc2 h.ext) fun w h=>?_
   refine cP h 3 rfl rfl ?_
   refine ce h dN (cc3 h.ext) fun w h=>?_
   refine ce h fK (cc4 h.ext) fun w h=>?_
   refine de h 0 rfl rfl rfl rfl fun w h=>?_
   exact lf1 _ _ h
  refine ck (dy h 3 rfl rfl ?_)
  refine dy h 0 rfl rfl ?_
  refine ce h dN (cc5 h.ext) fun w h=>?_
  refine ce h vv (cc6 h.ext) fun w h=>?_
  refine gN (du h fun g4 w h=>?_)
  refine de h 0 rfl rfl rfl rfl fun w h=>?_
  dsimp only[List.set]at h
  refine Iu.mk ?_
  intro K hK
  refine cE (by omega) (cf (hK _ ?_))
  clear hK
  refine dy h 0 rfl rfl ?_
  refine ck (de h 4 rfl rfl rfl rfl fun w h=>?_)
  refine ck (Eng.ld1 h 4 rfl rfl (cF (by omega) (by omega) (ck (tl h 4 rfl rfl rfl rfl fun w h=>?_))))
  refine ck (dy h 4 rfl rfl ?_)
  refine ck (dy h 4 rfl rfl ?_)
  refine ce h oB (cc7 h.ext) fun w h=>?_
  refine ck (tl h 4 rfl rfl rfl rfl fun w h=>?_)
  refine dy h 4 rfl rfl ?_
  refine de h 3 rfl rfl rfl rfl fun w h=>?_
  dsimp only[List.set]at h
  refine mj h 3 rfl rfl ?_
  exact bQ.mk ⟨h.ext,rfl⟩
 | true=>
  apply sP
  unfold nM
  have h:=Hp.init [] w0
  refine ep h fun g1 w h=>?_
  refine du h fun g2 w h=>?_
  refine ce h cq (cc0 h.ext) fun w h=>?_
  refine du h fun g3 w h=>?_
  refine de h 0 rfl rfl rfl rfl fun w h=>?_
  dsimp only[List.set]at h
  refine Iu.mk ?_
  intro K hK
  refine co (ce h cq (cc1 h.ext) fun w h=>?_)
  refine de h 0 rfl rfl rfl rfl fun w h=>?_
  dsimp only[List.set]at h
  refine hK _ ?_
  clear hK
  refine mE.lfb tR (fR (tx (gO wt true))) h (fun K lf1=>?_) (fun gx w h=>?_)
  ·replace h:=h.dr
   refine di (fu h 2 rfl rfl ?_)
   refine fu h 0 rfl rfl ?_
   refine di (fu h 2 rfl rfl ?_)
   refine⟨?_,?_⟩
   refine ce h cq (cc1 h.ext) fun w h=>?_
   refine cP h 2 rfl rfl ?_
   refine cP h 0 rfl rfl ?_
   refine cP h 2 rfl rfl ?_
   refine⟨?_,?_⟩
   refine ce h jo (cc2 h.ext) fun w h=>?_
   refine cP h 2 rfl rfl ?_
   refine⟨?_,?_⟩
   refine ce h dN (cc3 h.ext) fun w h=>?_
   refine⟨?_,?_⟩
   refine ce h fK (cc4 h.ext) fun w h=>?_
   refine du h fun g4 w h=>?_
   refine cP h 3 rfl rfl ?_
   refine cP h 1 rfl rfl ?_
   refine cP h 3 rfl rfl ?_
   refine de h 0 rfl rfl rfl rfl fun w h=>?_
   exact lf1 _ _ h
   refine du h fun g4 w h=>?_
   refine cP h 3 rfl rfl ?_
   refine cP h 1 rfl rfl ?_
   refine cP h 3 rfl rfl ?_
   refine ce h fK (cc4 h.ext) fun w h=>?_
   refine de h 0 rfl rfl rfl rfl fun w h=>?_
   exact lf1 _ _ h
   refine du h fun g4 w h=>?_
   refine cP h 3 rfl rfl ?_
   refine cP h 1 rfl rfl ?_
   refine cP h 3 rfl rfl ?_
   refine ce h dN (cc3 h.ext) fun w h=>?_
   refine ce h fK (cc4 h.ext) fun w h=>?_
   refine de h 0 rfl rfl rfl rfl fun w h=>?_
   exact lf1 _ _ h
   refine du h fun g4 w h=>?_
   refine cP h 3 rfl rfl ?_
   refine cP h 1 rfl rfl ?_
   refine cP h 3 rfl rfl ?_
   refine ce h jo (cc2 h.ext) fun w h=>?_
   refine cP h 3 rfl rfl ?_
   refine ce h dN (cc3 h.ext) fun w h=>?_
   refine ce h fK (cc4 h.ext) fun w h=>?_
   refine de h 0 rfl rfl rfl rfl fun w h=>?_
   exact lf1 _ _ h
   refine du h fun g4 w h=>?_
   refine cP h 3 rfl rfl ?_
   refine cP h 1 rfl rfl ?_
   refine cP h 3 rfl rfl ?_
   refine ce h cq (cc1 h.ext) fun w h=>?_
   refine cP h 3 rfl rfl ?_
   refine cP h 1 rfl rfl ?_
   refine cP h 3 rfl rfl ?_
   refine ce h jo (cc2 h.ext) fun w h=>?_
   refine cP h 3 rfl rfl ?_
   refine ce h dN (cc3 h.ext) fun w h=>?_
   refine ce h fK (cc4 h.ext) fun w h=>?_
   refine de h 0 rfl rfl rfl rfl fun w h=>?_
   exact lf1 _ _ h
  refine ck (dy h 3 rfl rfl ?_)
  refine dy h 0 rfl rfl ?_
  refine ce h dN (cc5 h.ext) fun w h=>?_
  refine ce h vv (cc6 h.ext) fun w h=>?_
  refine gN (du h fun g4 w h=>?_)
  refine de h 0 rfl rfl rfl rfl fun w h=>?_
  dsimp only[List.set]at h
  refine Iu.mk ?_
  intro K hK
  refine cE (by omega) (cf (hK _ ?_))
  clear hK
  refine dy h 0 rfl rfl ?_
  refine ck (de h 4 rfl rfl rfl rfl fun w h=>?_)
  refine ck (Eng.ld1 h 4 rfl rfl (cF (by omega) (by omega) (ck (tl h 4 rfl rfl rfl rfl fun w h=>?_))))
  refine ck (dy h 4 rfl rfl ?_)
  refine ck (dy h 4 rfl rfl ?_)
  refine ce h oB (cc7 h.ext) fun w h=>?_
  refine ck (tl h 4 rfl rfl rfl rfl fun w h=>?_)
  refine dy h 4 rfl rfl ?_
  refine de h 3 rfl rfl rfl rfl fun w h=>?_
  dsimp only[List.set]at h
  refine mj h 3 rfl rfl ?_
  exact bQ.mk ⟨h.ext,rfl⟩
end Go.Proofs.YtnkmbjedcjcccaaGreatDoor
namespace Go.Proofs.YtnkmbjedcjcccaaGreatDoor
open Tryz
open Go Go.Eng
set_option maxRecDepth 100000
def eO(P:Program)(t81:Value)(t40:Value)(t31:Value)(t14:Value)(t37:Value)(t8:Value)(t30:Value)(k1:Value->World->Prop)(w:World)(R:Ending->World->Prop):Prop:=
 If t81
 (Bn P .add 3 true t40 (.int .i64 1) w.drew fun t128 w=>
 k1 t128 w)
 (Nc t31 w.drew fun t83 w=>
 Fa P 30 t83 8 w fun t84 w=>
 Ld P 3 t84 w fun t85 w=>
 Bn P .add 3 true t85 (.int .i64 1) w fun t86 w=>
 Nc t31 w fun t87 w=>
 Fa P 30 t87 8 w fun t88 w=>
 cL P 3 t88 t86 w fun w=>
 Dl t31 fun t91=>
 Dv P true (Instr.fieldAt 30 t91 9) w.drew fun t92=>
 Dv P false (Instr.loadAt 25 t92) w.drew fun t93=>
 Dv P true (Instr.fieldAt 65 t14 7) w.drew fun t95=>
 Dv P false (Instr.loadAt 3 t95) w.drew fun t96=>
 Dl t31 fun t98=>
 Dv P true (Instr.fieldAt 30 t98 2) w.drew fun t99=>
 Dv P false (Instr.loadAt 3 t99) w.drew fun t100=>
 Dv P true (bn .gtr 3 false t96 t100) w.drew fun t101=>
 Cw P t37 #[t101] w.drew (fun _ _=>False) fun t102 w=>
 Ke P (Instr.loadAt 25 t92) t93 w <|
 Cl P 32 #[t93,t102] w (fun _ _=>False) fun t103 w=>
 gR t103 0 fun t104=>
 gR t103 1 fun t105=>
 Cl P 52 #[t104,t105] w (fun _ _=>False) fun t106 w=>
 Cl P 60 #[t106,(.int .i64 12)] w (fun _ _=>False) fun t107 w=>
 gR t107 0 fun t108=>
 gR t107 1 fun t109=>
 Cl P 52 #[t108,t109] w (fun _ _=>False) fun t110 w=>
 Dl t31 fun t111=>
 Dv P true (Instr.fieldAt 30 t111 9) w fun t112=>
 cL P 25 t112 t110 w fun w=>
 Nc t31 w fun t115 w=>
 Ld P 30 t115 w fun t116 w=>
 Cl P 61 #[t116] w (fun _ _=>False) fun t117 w=>
 Nc t31 w fun t118 w=>
 Fa P 30 t118 10 w fun t119 w=>
 cL P 4 t119 t117 w fun w=>
 Nc t31 w fun t121 w=>
 Fa P 30 t121 10 w fun t122 w=>
 Ld P 4 t122 w fun t123 w=>
 If t123
 (Ld P 33 t8 w fun t124 w=>
 Bs P 33 1 [(0,t30)] w fun t126 w=>
 Bt P .append #[33,33] 33 #[t124,t126] w fun t127 w=>
 cL P 33 t8 t127 w fun w=>
 Bn P .add 3 true t40 (.int .i64 1) w fun t128x1 w=>
 k1 t128x1 w)
 (Bn P .add 3 true t40 (.int .i64 1) w fun t128x2 w=>
 k1 t128x2 w))
def kG(P:Program)(t43:Value)(t31:Value)(t35:Value)(t40:Value)(t37:Value)(t8:Value)(t30:Value)(k1:Value->World->Prop)(w:World)(R:Ending->World->Prop):Prop:=
 Al P 65 w fun t14 w=>
 cL P 65 t14 t43 w fun w=>
 Dl t31 fun t46=>
 Dv P true (Instr.fieldAt 30 t46 7) w.drew fun t47=>
 Dv P false (Instr.loadAt 3 t47) w.drew fun t48=>
 Dv P true (Instr.fieldAt 65 t14 0) w.drew fun t49=>
 Dv P false (Instr.loadAt 3 t49) w.drew fun t50=>
 Dv P true (bV .max #[3,3] 3 #[t48,t50]) w.drew fun t51=>
 Dl t31 fun t52=>
 Dv P true (Instr.fieldAt 30 t52 7) w.drew fun t53=>
 cL P 3 t53 t51 w.drew fun w=>
 Dl t31 fun t55=>
 Dv P true (Instr.fieldAt 30 t55 10) w.drew fun t56=>
 Dv P false (Instr.loadAt 4 t56) w.drew fun t57=>
 dx t57 false (fun k=>Dv P true (Instr.fieldAt 65 t14 4) w.drew k) fun t59=>
 dx t57 false (fun k=>Dv P false (Instr.loadAt 3 t59) w.drew k) fun t60=>
 dx t57 false (fun k=>k t31) fun t61=>
 dx t57 false (fun k=>Dl t61 k) fun t62=>
 dx t57 false (fun k=>Dv P true (Instr.fieldAt 30 t62 0) w.drew k) fun t63=>
 dx t57 false (fun k=>Dv P false (Instr.loadAt 3 t63) w.drew k) fun t64=>
 dx t57 false (fun k=>Dv P true (bn .neq 3 false t60 t64) w.drew k) fun t65=>
 eH t57 (.bool true) t65 fun t66=>
 dx t66 false (fun k=>Dv P true (Instr.fieldAt 65 t14 3) w.drew k) fun t68=>
 dx t66 false (fun k=>Dv P false (Instr.loadAt 3 t68) w.drew k) fun t69=>
 dx t66 false (fun k=>k t31) fun t70=>
 dx t66 false (fun k=>Dl t70 k) fun t71=>
 dx t66 false (fun k=>Dv P true (Instr.fieldAt 30 t71 1) w.drew k) fun t72=>
 dx t66 false (fun k=>Dv P false (Instr.loadAt 3 t72) w.drew k) fun t73=>
 dx t66 false (fun k=>Dv P true (bn .neq 3 false t69 t73) w.drew k) fun t74=>
 eH t66 (.bool true) t74 fun t75=>
 dx t75 false (fun k=>Dv P true (Instr.fieldAt 65 t14 0) w.drew k) fun t77=>
 dx t75 false (fun k=>Dv P false (Instr.loadAt 3 t77) w.drew k) fun t78=>
 dx t75 false (fun k=>k t35) fun t79=>
 dx t75 false (fun k=>Dv P true (bn .leq 3 false t78 t79) w.drew k) fun t80=>
 eH t75 (.bool true) t80 fun t81=>
 eO P t81 t40 t31 t14 t37 t8 t30 k1 w R
def iM(P:Program)(t0:Value)(t1:Value)(w:World)(R:Ending->World->Prop):Prop:=
 Bx P 28 t0 w fun t2 w=>
 Bx P 31 t1 w fun t3 w=>
 Al P 28 w fun t4 w=>
 Ld P 28 t2 w fun t17 w=>
 Cl P 13 #[t17] w (Pk R) fun t18 w=>
 Un P .not t18 w fun t19 w=>
 Gd t19 false (fun k=>Ld P 31 t3 w k) w fun t21 w=>
 Gd t19 false (fun k=>Cl P 58 #[t21] w (Pk R) k) w fun t22 w=>
 Gd t19 false (fun k=>Un P .not t22 w k) w fun t23 w=>
 cH t19 (.bool true) t23 w fun t24 w=>
 If t24
 (Bd P 28 [] w fun t25 w=>
 cL P 28 t4 t25 w fun w=>
 Rc P 28 t4 w fun r0=>
 R (.returned (.tuple #[r0,(.slice none 0 0),(.int .i64 280)])) w)
 (Ld P 28 t2 w fun t26 w=>
 Cl P 56 #[t26] w (Pk R) fun t27 w=>
 Al P 33 w fun t8 w=>
 Cl P 57 #[t27] w (Pk R) fun t29 w=>
 Ha P t29 w (fun t30 t31 w next lv=>
 Dl t31 fun t33=>
 Dv P true (Instr.fieldAt 30 t33 7) w.drew fun t34=>
 Dv P false (Instr.loadAt 3 t34) w.drew fun t35=>
 Cl P 59 #[t31] w.drew (fun _ _=>False) fun t37 w=>
 Ke P (Instr.loadAt 3 t34) t35 w <|
 Ld P 31 t3 w fun t38 w=>
 Bt P .len #[31] 3 #[t38] w fun t39 w=>
 jt (.int .i64 0) w (fun t40 w k1=>
 Bn P .lss 3 false t40 t39 w fun t41 w=>
 If t41
 (Ia P 31 t38 t40 w fun t42 w=>
 Ld P 65 t42 w fun t43 w=>
 kG P t43 t31 t35 t40 t37 t8 t30 k1 w R)
 (next w)))
 (fun D1 w=>
 Cl P 51 #[t27] w (fun c w=>Tk P D1 w fun w=>R (.panicked c) w) fun t131 w=>
 Ex t131 0 w fun t132 w=>
 Ex t131 1 w fun t133 w=>
 Al P 28 w fun t15 w=>
 cL P 28 t15 t132 w fun w=>
 Bn P .neq 46 true t133 (.int .i64 0) w fun t135 w=>
 If t135
 (Bd P 28 [] w fun t136 w=>
 cL P 28 t4 t136 w fun w=>
 Tk P D1 w fun w=>
 Rc P 28 t4 w fun r0=>
 R (.returned (.tuple #[r0,(.slice none 0 0),t133])) w)
 (Dv P false (Instr.loadAt 28 t15) w.drew fun t138=>
 Dv P false (Instr.loadAt 33 t8) w.drew fun t139=>
 cL P 28 t4 t138 w.drew fun w=>
 Ke P (Instr.loadAt 33 t8) t139 w <|
 Tk P D1 w fun w=>
 Rc P 28 t4 w fun r0=>
 R (.returned (.tuple #[r0,t139,(.int .i64 0)])) w))
 (fun D1 w=>
 Tk P D1 w fun w=>
 Rc P 28 t4 w fun r0=>
 R (.returned (.tuple #[r0,(.slice none 0 0),(.int .i64 0)])) w) [])
theorem ml{t0 t1:Value}{w:World}{R:Ending->World->Prop}(h:iM prog t0 t1 w R):Calls prog 24 #[t0,t1] w R:=
 dW (.sq .z (.sq (.sq .z (.cd (.sq .z .z) .z)) (.sq .z (.sq .z (.sq (.sq .z (.bk (.rf (.bk (.sq (.dr (.pur true 0 (.pur true 1 (.pur true 2 (.pur false 3 (.pur true 4 (.eff 5 [3] (.pur true 6 (.pur true 7 .done))))))))) (.sq .z (.bk (.lp [40] [14,41,42,43,44,45,46,47,48,49,50,51,52,53,54,55,56,57,58,59,60,61,62,63,64,65,66,67,68,69,70,71,72,73,74,75,76,77,78,79,80,81,82,83,84,85,86,87,88,89,90,91,92,93,94,95,96,97,98,99,100,101,102,103,104,105,106,107,108,109,110,111,112,113,114,115,116,117,118,119,120,121,122,123,124,125,126,127,128] (.sq .z (.sq (.cd .z .z) (.sq (.bk (.sq .z (.sq (.dr (.pur true 0 (.pur true 1 (.pur true 2 (.pur true 3 (.pur false 4 (.pur true 5 (.pur false 6 (.pur true 7 (.pur true 8 (.pur true 9 (.eff 10 [] .done)))))))))))) (.sq (.sq (.dr (.pur true 0 (.pur true 1 (.pur true 2 (.pur false 3 (.pur true 4 (.pur true 5 (.pur false 6 (.pur true 7 (.pur true 8 (.pur true 9 (.pur false 10 (.pur true 11 (.pur true 12 (.pur true 13 (.pur true 14 (.pur false 15 (.pur true 16 (.pur true 17 (.pur true 18 (.pur false 19 (.pur true 20 (.pur true 21 (.pur true 22 (.pur true 23 (.pur false 24 (.pur true 25 (.pur true 26 (.pur true 27 .done))))))))))))))))))))))))))))) (.cd .z .z)) (.sq .z (.sq (.dr (.pur true 0 (.pur true 1 (.pur true 2 (.pur true 3 (.pur false 4 (.pur true 5 (.pur true 6 (.pur false 7 (.pur true 8 (.pur true 9 (.pur true 10 (.pur false 11 (.pur true 12 (.eff 13 [4] (.eff 14 [] (.pur true 15 (.pur true 16 (.eff 17 [] (.eff 18 [] (.pur true 19 (.pur true 20 (.eff 21 [] (.pur true 22 (.pur true 23 (.eff 24 [] .done)))))))))))))))))))))))))) (.sq .z (.sq .z (.cd .z .z))))))))) .z)))))))) []))) (.sq .z (.sq (.sq .z (.cd (.sq .z .z) .z)) (.sq (.dr (.pur false 0 (.pur false 1 (.eff 2 [1] (.pur true 3 (.pur true 4 .done)))))) .z)))))))) [t0,t1] func24 (by kernel_rfl) (by kernel_rfl) h
end Go.Proofs.YtnkmbjedcjcccaaGreatDoor
namespace Go.Proofs.YtnkmbjedcjcccaaGreatDoor
open Tryz
open Go Go.Eng Go.Proofs Go.Num Go.RowKit
open Go.Alm (Ft Wt Sm VW VA dn gO)
set_option maxRecDepth 100000
abbrev fN(k:Nat):List Value:=[.int .i64 (k:Int)]
abbrev cW(op ve lim:Int)(m a b:RS)(st th sn:Int)(we:RS)(ru:Bool):List Value:=[.int .i64 op,.int .i64 ve,.int .i64 lim,bh m.1,bh m.2,bh a.1,bh a.2,bh b.1,bh b.2,.int .i64 st,.int .i64 th,.int .i64 sn,bh we.1,bh we.2,.bool ru]
abbrev cT(w:Wt):List Value:=cW w.op w.ve w.lim (tx w.mu) (tx w.al) (tx w.bet) w.st w.th w.sn (tx w.we) w.ru
section
variable{A B:List Value}{i:Nat}(hA:A.length=i * 15)
include hA
theorem Fx{cs:List Value}:iY (A++cs++B) (i * 15) cs:=fun k v hk=>by
 have hl:=(List.getElem?_eq_some_iff.1 hk).1
 rw[List.append_assoc,List.getElem?_append_right (by omega),hA,show i * 15+k - i * 15=k by omega,List.getElem?_append_left hl]
 exact hk
theorem O0{cs:List Value}{k:Nat}{v:Value}(hk:k < cs.length):(A++cs++B).set (0+i * 15+k) v=A++cs.set k v++B:=by
 rw[List.append_assoc,List.set_append,if_neg (by omega),show 0+i * 15+k - A.length=k by omega,List.set_append,if_pos hk,List.append_assoc]
theorem Q3{cs:List Value}{k:Nat}{vs:List Value}(hk:k+vs.length<=cs.length):(A++cs++B).take (0+i * 15+k)++vs++(A++cs++B).drop (0+i * 15+k+vs.length)=A++(cs.take k++vs++cs.drop (k+vs.length))++B:=by
 rw[List.append_assoc A cs B,List.take_append,List.take_of_length_le (by omega),List.drop_append,List.drop_of_length_le (by omega),show 0+i * 15+k - A.length=k by omega,show 0+i * 15+k+vs.length - A.length=k+vs.length by omega,List.take_append,List.drop_append,show k - cs.length=0 by omega,show k+vs.length - cs.length=0 by omega]
 simp
end
theorem O1{P:Program}{t:TypeId}{c wi:Bool}{x y:Int}{b:Bool}{w:World}{KP:Value->Prop}(h:decide (y < x)=b)(hk:KP (.bool b)):Dv P wi (bn .gtr t c (.int .i64 x) (.int .i64 y)) w KP:=by
 cases b with
 | false=>exact pZ (by have:=of_decide_eq_false h;omega) hk
 | true=>exact nC (of_decide_eq_true h) hk
section
variable{w0 W:World}{L:List Et}{R:Ending->World->Prop}{k1:Value->World->Prop}{A B:List Value}{i n cap gr gw gl g8 j:Nat}{rv:Value}{rn:List Nat}{th0 m:Int}{f:Ft}{wt:Wt}
 (hA:A.length=i * 15) (hin:i < n) (hE:En w0) (hj:j < 1000000000) (hrn:rn.length<=1000) (hin2:n<=1000)
include hA hin hE hj hrn hin2
theorem O2{u:Value}(hu:u=.slice (some ⟨gr,0,none⟩) n cap)
 (hk:∀ W,Hp [] w0 W (bx gw tR (fR (tx (gO wt true)))::bx gl tR (fR (tx (gO wt false)))::ro gM 15 u n (A++cT wt++B)::bx g8 33 [rv]::ro 3 1 rv rn.length (rn.flatMap fN)::L)->k1 (.int .i64 ((j:Int)+1)) W)
 {g14:Nat} (h:Hp [] w0 W.drew (bx g14 No (fF f)::bx gw tR (fR (tx (gO wt true)))::bx gl tR (fR (tx (gO wt false)))::ro gM 15 u n (A++cT wt++B)::bx g8 33 [rv]::ro 3 1 rv rn.length (rn.flatMap fN)::L)):
 eO prog (.bool true) (.int .i64 (j:Int)) (pr gr (0+i * 15)) (pr g14 0) (.func (.func 96) #[] #[pr gw 0,pr gl 0]) (pr g8 0) (.int .i64 (i:Int)) k1 W R:=by
 unfold eO
 refine co (cF (by omega) (by omega) ?_)
 exact hk _ (h.drop 1)
set_option maxHeartbeats 8000000 in
theorem O3{u:Value}(hu:u=.slice (some ⟨gr,0,none⟩) n cap)(hV:VW m wt)(hm:m<=100000000)(hr:wt.ru=false)(hlo:eS f.lo)
 (hk:∀ W rv',Hp [] w0 W (bx gw tR (fR (tx (gO wt true)))::bx gl tR (fR (tx (gO wt false)))::ro gM 15 u n (A++cT (Alm.look wt (decide (wt.lim < f.lo)))++B)::bx g8 33 [rv']::ro 3 1 rv' (rn++if(Alm.look wt (decide (wt.lim < f.lo))).ru then [i] else []).length ((rn++if(Alm.look wt (decide (wt.lim < f.lo))).ru then [i] else []).flatMap fN)::L)->k1 (.int .i64 ((j:Int)+1)) W)
 {g14:Nat} (h:Hp [] w0 W.drew (bx g14 No (fF f)::bx gw tR (fR (tx (gO wt true)))::bx gl tR (fR (tx (gO wt false)))::ro gM 15 u n (A++cT wt++B)::bx g8 33 [rv]::ro 3 1 rv rn.length (rn.flatMap fN)::L)):
 eO prog (.bool false) (.int .i64 (j:Int)) (pr gr (0+i * 15)) (pr g14 0) (.func (.func 96) #[] #[pr gw 0,pr gl 0]) (pr g8 0) (.int .i64 (i:Int)) k1 W R:=by
 have sm:=hV.mu
 have sb:=hV.bet
 have hsn:=hV.sn
 obtain⟨late,hlate⟩:∃ b,decide (wt.lim < f.lo)=b:=⟨_,rfl⟩
 rw[hlate]at hk
 have s1:=GW hV hr late
 have sg:=Fx (B:=B) hA (cs:=cT wt)
 obtain⟨wn,hwn⟩:∃ b,Alm.Dn (dn (wt.we * gO wt late)) wt.al=b:=⟨_,rfl⟩
 have e7:cT (Alm.look wt late)=cW wt.op wt.ve wt.lim (tx wt.mu) (tx wt.al) (tx wt.bet) wt.st wt.th (wt.sn+1) (tx (dn (wt.we * gO wt late))) wn:=by rw[<-hwn];rfl
 have e8:(Alm.look wt late).ru=wn:=hwn
 rw[e7,e8]at hk
 clear e7 e8
 have fwd:Alm.gO wt late=gO wt late:=rfl
 have ccb:∀ {g:Nat} {W:World},cM W gw tR (fR (tx (gO wt true)))->cM W gl tR (fR (tx (gO wt false)))->Calls prog 96 ((#[]:Array Value)++#[.bool late]++#[pr gw 0,pr gl 0]) W (bQ fun r w'=>bK W w'/\r=vR (tx (gO wt late))):=fun {g} {W} h1 h2=>by
  have:=OZ (late:=late) hE sm sb h1 h2
  rw[Tj]
  cases late
  ·exact this
  ·exact this
 have cc2:=fun {W:World} (e:bK w0 W)=>GH (w:=W) (zi hV.we0 hV.we1 hV.wd) (OY sm sb late) (by decide) (by decide) (hE.hT.ext e)
 have cc3:=fun {W:World} (_:bK w0 W) {x:Rat}=>wB (w:=W) (p:=tx x)
 have cc4:=fun {W:World} (e:bK w0 W)=>OU (w:=W) (s1.1.mono (by decide) (by decide)) (hE.hT.ext e)
 have ccw:∀ {W:World},bK w0 W->Calls prog 61 #[vW ⟨wt.op,wt.ve,wt.lim,tx wt.mu,tx wt.al,tx wt.bet,wt.st,wt.th,wt.sn+1,tx (dn (wt.we * gO wt late)),wt.ru⟩] W (bQ fun v w'=>bK W w'/\v=.bool wn):=fun {W} e=>by
  have:=Nb (w0:=W) (hE.ext e) s1.2 (Sm.sr1 hV.al) (r:=⟨wt.op,wt.ve,wt.lim,tx wt.mu,tx wt.al,tx wt.bet,wt.st,wt.th,wt.sn+1,tx (dn (wt.we * gO wt late)),wt.ru⟩) rfl rfl
  rw[hwn]at this
  exact this
 clear hwn
 unfold eO
 refine cf (tH ?_)
 refine ck (SV h 3 rfl ‹_› sg (by rfl) ?_)
 refine cF (by omega) (by omega) (tH ?_)
 refine ck (OC h 3 rfl ‹_› (by rfl) (by rfl) (by omega) fun w h=>?_)
 refine hH ?_
 replace h:=h.dr
 refine di ?_
 dsimp only[List.set]at h
 replace h:Hp [] w0 w.drew (bx g14 No (fF f)::bx gw tR (fR (tx (gO wt true)))::bx gl tR (fR (tx (gO wt false)))::ro gM 15 u n (A++cW wt.op wt.ve wt.lim (tx wt.mu) (tx wt.al) (tx wt.bet) wt.st wt.th (wt.sn+1) (tx wt.we) wt.ru++B)::bx g8 33 [rv]::ro 3 1 rv rn.length (rn.flatMap fN)::L):=by
  rw[O0 hA (show 11 < 15 by decide)]at h
  exact h
 clear sg
 have sg:=Fx (B:=B) hA (cs:=cW wt.op wt.ve wt.lim (tx wt.mu) (tx wt.al) (tx wt.bet) wt.st wt.th (wt.sn+1) (tx wt.we) wt.ru)
 refine UW h 3 rfl ‹_› sg (by rfl) ?_
 refine di (iX h 0 rfl rfl (hH ?_))
 refine di (E0 h 3 rfl ‹_› sg (by rfl) ?_)
 have hgt:(if late then true else false)=late:=by cases late <;> rfl
 refine O1 hlate ?_
 have cc1:=fun {W:World} (_:bK w0 W)=>@ccb 0 W
 refine Ek Bo (ccb (g:=0) (h.get (i:=1) rfl) (h.get (i:=2) rfl)) ?_
 rintro _ w2 ⟨x,rfl⟩
 have h:=h.x x
 clear cc1
 refine UX h 3 rfl ‹_› sg (by rfl) ?_
 refine ce h gB (cc2 h.ext) fun w h=>?_
 refine uP (ce h ew (cc3 h.ext) fun w h=>?_)
 refine ce h yf (cc4 h.ext) fun w h=>?_
 refine uP (ce h ew (cc3 h.ext) fun w h=>?_)
 refine hH ?_
 refine di (SP h 3 rfl ‹_› (by rfl) (by rfl) (by simp only[List.length_cons,List.length_nil];omega) fun w h=>?_)
 refine tH ?_
 dsimp only[List.set]at h
 replace h:Hp [] w0 w (bx g14 No (fF f)::bx gw tR (fR (tx (gO wt true)))::bx gl tR (fR (tx (gO wt false)))::ro gM 15 u n (A++cW wt.op wt.ve wt.lim (tx wt.mu) (tx wt.al) (tx wt.bet) wt.st wt.th (wt.sn+1) (tx (dn (wt.we * gO wt late))) wt.ru++B)::bx g8 33 [rv]::ro 3 1 rv rn.length (rn.flatMap fN)::L):=by
  rw[Q3 hA (show 12+2<=15 by decide)]at h
  exact h
 clear sg
 have sg:=Fx (B:=B) hA (cs:=cW wt.op wt.ve wt.lim (tx wt.mu) (tx wt.al) (tx wt.bet) wt.st wt.th (wt.sn+1) (tx (dn (wt.we * gO wt late))) wt.ru)
 refine Uh h 3 rfl ‹_› ‹_› (by rfl) ?_
 refine ce h sO (ccw h.ext) fun w h=>?_
 refine tH ?_
 refine ck (OC h 3 rfl ‹_› (by rfl) (by rfl) (by omega) fun w h=>?_)
 refine tH ?_
 refine ck ?_
 dsimp only[List.set]at h
 replace h:Hp [] w0 w (bx g14 No (fF f)::bx gw tR (fR (tx (gO wt true)))::bx gl tR (fR (tx (gO wt false)))::ro gM 15 u n (A++cW wt.op wt.ve wt.lim (tx wt.mu) (tx wt.al) (tx wt.bet) wt.st wt.th (wt.sn+1) (tx (dn (wt.we * gO wt late))) wn++B)::bx g8 33 [rv]::ro 3 1 rv rn.length (rn.flatMap fN)::L):=by
  rw[O0 hA (show 14 < 15 by decide)]at h
  exact h
 clear sg
 have sg:=Fx (B:=B) hA (cs:=cW wt.op wt.ve wt.lim (tx wt.mu) (tx wt.al) (tx wt.bet) wt.st wt.th (wt.sn+1) (tx (dn (wt.we * gO wt late))) wn)
 cases wn with
 | false=>
  refine SV h 3 rfl ‹_› sg (by rfl) ?_
  refine cf (cF (by omega) (by omega) ?_)
  rw[if_neg (by decide),List.append_nil]at hk
  exact hk _ _ (h.drop 1)
 | true=>
  refine SV h 3 rfl ‹_› sg (by rfl) ?_
  refine co (Eng.ld1 h 4 rfl rfl (lA h (by rfl) (by decide) (by rfl) (by decide) fun v1 w h=>?_))
  refine kq (by rfl) (by decide) h 6 rfl (qZ 0 h rfl) (by first | rfl | assumption) (by omega) fun v2 w h=>?_
  refine HH h 5 rfl (qZ 6 h rfl) rfl fun w h=>?_
  refine cF (by omega) (by omega) ?_
  dsimp only[List.set]at h
  rw[if_pos rfl]at hk
  exact hk _ _ (by rw[List.length_append,List.flatMap_append];exact h.drop 2)
set_option maxHeartbeats 8000000 in
theorem Q4{u:Value}(hu:u=.slice (some ⟨gr,0,none⟩) n cap)(hV:VW m wt)(hm:m<=100000000)(hf:FI f)(hf9:f.tr<=999)(ht0:eS th0)(i1:eS wt.op)(i2:eS wt.ve)(i3:eS wt.lim)
 (hk:∀ W rv',Hp [] w0 W (bx gw tR (fR (tx (gO wt true)))::bx gl tR (fR (tx (gO wt false)))::ro gM 15 u n (A++cT (Alm.one th0 wt f)++B)::bx g8 33 [rv']::ro 3 1 rv' (rn++if(!wt.ru && (Alm.one th0 wt f).ru) then [i] else []).length ((rn++if(!wt.ru && (Alm.one th0 wt f).ru) then [i] else []).flatMap fN)::L)->k1 (.int .i64 ((j:Int)+1)) W)
 (h:Hp [] w0 W (bx gw tR (fR (tx (gO wt true)))::bx gl tR (fR (tx (gO wt false)))::ro gM 15 u n (A++cT wt++B)::bx g8 33 [rv]::ro 3 1 rv rn.length (rn.flatMap fN)::L)):
 kG prog (vF f) (pr gr (0+i * 15)) (.int .i64 th0) (.int .i64 (j:Int)) (.func (.func 96) #[] #[pr gw 0,pr gl 0]) (pr g8 0) (.int .i64 (i:Int)) k1 W R:=by
 have hth:=hV.th
 have hst:=hV.st
 obtain⟨f1,f2,f3,f4,f5,f6,f7,f8,f9,f10⟩:=hf
 have hmx:max wt.th f.tr<=999:=by omega
 have hV1:VW m { wt with th:=max wt.th f.tr }:=hV.thr (by omega) hmx
 have sg:=Fx (B:=B) hA (cs:=cT wt)
 have skip:Alm.kQ th0 wt f=false->cT (Alm.one th0 wt f)=cT { wt with th:=max wt.th f.tr }/\(!wt.ru && (Alm.one th0 wt f).ru)=false:=fun hc=>by
  have e:Alm.one th0 wt f={ wt with th:=max wt.th f.tr }:=by unfold Alm.one;rw[hc];rfl
  rw[e]
  exact⟨rfl,by cases wt.ru <;> rfl⟩
 have lfF:Alm.kQ th0 wt f=false->∀ {W:World} {g14:Nat},Hp [] w0 W.drew (bx g14 No (fF f)::bx gw tR (fR (tx (gO wt true)))::bx gl tR (fR (tx (gO wt false)))::ro gM 15 u n (A++cT { wt with th:=max wt.th f.tr }++B)::bx g8 33 [rv]::ro 3 1 rv rn.length (rn.flatMap fN)::L)->
  eO prog (.bool true) (.int .i64 (j:Int)) (pr gr (0+i * 15)) (pr g14 0) (.func (.func 96) #[] #[pr gw 0,pr gl 0]) (pr g8 0) (.int .i64 (i:Int)) k1 W R:=fun hc {W} {g14} h=>by
  refine O2 (wt:={ wt with th:=max wt.th f.tr }) hA hin hE hj hrn hin2 hu (fun W h=>hk W rv ?_) h
  rw[(skip hc).1,(skip hc).2,if_neg (by decide),List.append_nil]
  exact h
 have lfT:Alm.kQ th0 wt f=true->∀ {W:World} {g14:Nat},Hp [] w0 W.drew (bx g14 No (fF f)::bx gw tR (fR (tx (gO wt true)))::bx gl tR (fR (tx (gO wt false)))::ro gM 15 u n (A++cT { wt with th:=max wt.th f.tr }++B)::bx g8 33 [rv]::ro 3 1 rv rn.length (rn.flatMap fN)::L)->
  eO prog (.bool false) (.int .i64 (j:Int)) (pr gr (0+i * 15)) (pr g14 0) (.func (.func 96) #[] #[pr gw 0,pr gl 0]) (pr g8 0) (.int .i64 (i:Int)) k1 W R:=fun hc {W} {g14} h=>by
  have hr:=Alm.Hm hc
  have e:Alm.one th0 wt f=Alm.look { wt with th:=max wt.th f.tr } (decide (wt.lim < f.lo)):=by unfold Alm.one;rw[hc];rfl
  refine O3 (wt:={ wt with th:=max wt.th f.tr }) hA hin hE hj hrn hin2 hu hV1 hm hr f8 (fun W rv' h=>hk W rv' ?_) h
  rw[e,hr]
  exact h
 clear hk skip
 unfold kG
 refine du h fun g1 w h=>?_
 refine de h 0 rfl rfl rfl rfl fun w h=>?_
 refine hH ?_
 replace h:=h.dr
 refine di (E0 h 3 rfl ‹_› sg (by rfl) ?_)
 refine di (iX h 0 rfl rfl (Cu (hH ?_)))
 refine di (OC h 3 rfl ‹_› (by rfl) (by rfl) (by omega) fun w h=>?_)
 refine hH ?_
 replace h:=h.dr
 refine di ?_
 dsimp only[List.set]at h
 replace h:Hp [] w0 w.drew (bx g1 No (fF f)::bx gw tR (fR (tx (gO wt true)))::bx gl tR (fR (tx (gO wt false)))::ro gM 15 u n (A++cW wt.op wt.ve wt.lim (tx wt.mu) (tx wt.al) (tx wt.bet) wt.st (max wt.th f.tr) wt.sn (tx wt.we) wt.ru++B)::bx g8 33 [rv]::ro 3 1 rv rn.length (rn.flatMap fN)::L):=by
  rw[O0 hA (show 10 < 15 by decide)]at h
  exact h
 clear sg
 have sg:=Fx (B:=B) hA (cs:=cW wt.op wt.ve wt.lim (tx wt.mu) (tx wt.al) (tx wt.bet) wt.st (max wt.th f.tr) wt.sn (tx wt.we) wt.ru)
 rcases Bool.eq_false_or_eq_true wt.ru with hru | hru
 ·have lf:=@lfF (by unfold Alm.kQ;rw[hru];rfl)
  refine E0 h 3 rfl hu sg (u:=.bool true) (by show some (Value.bool wt.ru)=_;rw[hru]) ?_
  refine cC (cC (cC (cC (cC (cC (cC (cG (cC (cC (cC (cC (cC (cC (cC (cG (cC (cC (cC (cC (cG ?_))))))))))))))))))))
  exact lf h
 by_cases ho:f.op=wt.op
 rotate_left
 ·have lf:=@lfF (by unfold Alm.kQ;rw[hru,beq_eq_false_iff_ne.2 ho];rfl)
  refine E0 h 3 rfl hu sg (u:=.bool false) (by show some (Value.bool wt.ru)=_;rw[hru]) ?_
  refine cg (di (cg (iX h 0 rfl rfl (cg (cg (hH ?_))))))
  refine cg (di (cg (E0 h 3 rfl ‹_› sg (by rfl) ?_)))
  refine cg (FZ (by omega) (dh (cC (cC (cC (cC (cC (cC (cC (cG (cC (cC (cC (cC (cG ?_)))))))))))))))
  exact lf h
 by_cases hv:f.ve=wt.ve
 rotate_left
 ·have lf:=@lfF (by unfold Alm.kQ;rw[hru,beq_eq_false_iff_ne.2 hv,Bool.and_false,Bool.false_and])
  refine E0 h 3 rfl hu sg (u:=.bool false) (by show some (Value.bool wt.ru)=_;rw[hru]) ?_
  refine cg (di (cg (iX h 0 rfl rfl (cg (cg (hH ?_))))))
  refine cg (di (cg (E0 h 3 rfl ‹_› sg (by rfl) ?_)))
  refine cg (wT (by omega) (dh (cg (di (cg (iX h 0 rfl rfl (cg (cg (hH ?_)))))))))
  refine cg (di (cg (E0 h 3 rfl ‹_› sg (by rfl) ?_)))
  refine cg (FZ (by omega) (dh (cC (cC (cC (cC (cG ?_)))))))
  exact lf h
 by_cases ht:f.tr<=th0
 ·have lf:=@lfF (by unfold Alm.kQ;rw[decide_eq_false (show ¬th0 < f.tr by omega),Bool.and_false])
  refine E0 h 3 rfl hu sg (u:=.bool false) (by show some (Value.bool wt.ru)=_;rw[hru]) ?_
  refine cg (di (cg (iX h 0 rfl rfl (cg (cg (hH ?_))))))
  refine cg (di (cg (E0 h 3 rfl ‹_› sg (by rfl) ?_)))
  refine cg (wT (by omega) (dh (cg (di (cg (iX h 0 rfl rfl (cg (cg (hH ?_)))))))))
  refine cg (di (cg (E0 h 3 rfl ‹_› sg (by rfl) ?_)))
  refine cg (wT (by omega) (dh (cg (di (cg (iX h 0 rfl rfl (cg (cg (oK (by omega) (dh ?_))))))))))
  exact lf h
 ·have lf:=@lfT (by unfold Alm.kQ;rw[hru,decide_eq_true (show th0 < f.tr by omega),ho,hv,beq_self_eq_true,beq_self_eq_true];rfl)
  refine E0 h 3 rfl hu sg (u:=.bool false) (by show some (Value.bool wt.ru)=_;rw[hru]) ?_
  refine cg (di (cg (iX h 0 rfl rfl (cg (cg (hH ?_))))))
  refine cg (di (cg (E0 h 3 rfl ‹_› sg (by rfl) ?_)))
  refine cg (wT (by omega) (dh (cg (di (cg (iX h 0 rfl rfl (cg (cg (hH ?_)))))))))
  refine cg (di (cg (E0 h 3 rfl ‹_› sg (by rfl) ?_)))
  refine cg (wT (by omega) (dh (cg (di (cg (iX h 0 rfl rfl (cg (cg (wU (by omega) (dh ?_))))))))))
  exact lf h
end
end Go.Proofs.YtnkmbjedcjcccaaGreatDoor
namespace Go.Proofs.YtnkmbjedcjcccaaGreatDoor
open Tryz
open Go Go.Eng Go.Proofs Go.Num Go.RowKit
open Go.Alm (Ft Wt Sm VW VA dn gO obs obs1 dD)
set_option maxRecDepth 100000
theorem Mb{w:World}{e:TypeId}{c n:Nat}{v:Value}{xs:List Value}(h:w.ownsRow 0 e c v n xs):∀ k∈v.ownBlock.toList,zE w.heap[k]?=false:=by
 obtain⟨h1,⟨rfl,h⟩ | ⟨g,cap,cur,rfl,_,h3,_⟩⟩:=h
 ·intro k hk;simp[Value.ownBlock]at hk
 ·intro k hk
  simp[Value.ownBlock]at hk
  subst hk
  rw[h3];rfl
abbrev Q5:TypeId:=33
abbrev Q6:TypeId:=31
abbrev J0:Value:=.tuple #[vA ([],[]) (.slice none 0 0),.slice none 0 0,.int .i64 280]
def cO(ws:List Wt)(fl:List Ft)(i:Nat):List Value:=(((obs (ws.take i) fl)++ws.drop i).map wr).flatMap fW
def rG(ws:List Wt)(fl:List Ft)(i:Nat):List Nat:=dD (ws.take i) (obs (ws.take i) fl) 0
theorem Tl(ws:List Wt)(fl:List Ft):cO ws fl ws.length=((obs ws fl).map wr).flatMap fW:=by
 unfold cO
 rw[List.take_length,List.drop_length,List.append_nil]
theorem Q7(ws:List Wt)(fl:List Ft):rG ws fl ws.length=dD ws (obs ws fl) 0:=by
 unfold rG
 rw[List.take_length]
section
variable{ws:List Wt}{fl:List Ft}{i:Nat}{w:Wt}(hx:ws[i]?=some w)
include hx
def cA(ws:List Wt)(fl:List Ft)(i:Nat):List Value:=((obs (ws.take i) fl).map wr).flatMap fW
def cB(ws:List Wt)(i:Nat):List Value:=((ws.drop (i+1)).map wr).flatMap fW
omit hx in
theorem O4(h:i<=ws.length):(cA ws fl i).length=i * 15:=by
 unfold cA
 rw[zB (f:=fW) (c:=15) (fun _=>rfl),List.length_map,Alm.qB,List.length_take]
 congr 1
 omega
theorem O5:cO ws fl i=cA ws fl i++cT w++cB ws i:=by
 have hd:ws.drop i=w::ws.drop (i+1):=by
  obtain⟨h1,h2⟩:=List.getElem?_eq_some_iff.1 hx
  rw[List.drop_eq_getElem_cons h1,h2]
 unfold cO cA cB
 rw[hd,List.map_append,List.flatMap_append,List.map_cons,List.flatMap_cons,List.append_assoc]
theorem Mc:cO ws fl (i+1)=cA ws fl i++cT (obs1 w.th w fl)++cB ws i:=by
 unfold cO cA cB
 rw[Alm.Az hx,List.map_append,List.flatMap_append,List.map_append,List.flatMap_append,List.append_assoc,List.append_assoc]
 rfl
theorem GX:rG ws fl (i+1)=rG ws fl i++(if !w.ru && (obs1 w.th w fl).ru then [i] else []):=by
 have h1:=(List.getElem?_eq_some_iff.1 hx).1
 unfold rG
 rw[Alm.Az hx,List.take_add_one,hx]
 show dD (ws.take i++[w]) _ 0=_
 rw[Alm.Ay (by rw[Alm.qB]),List.length_take,show 0+min i ws.length=i by omega]
end
theorem J1(t:Int)(w:Wt)(l:List Ft)(b:Bool):gO (obs1 t w l) b=gO w b:=by
 have h:=Alm.sX w t l
 unfold Alm.gO
 rw[h.2.1,h.2.2.2.1]
theorem Cx{n:Int}{w:Wt}(h:VW n w)(hn:n<=1000000000):WRk (wr w):=by
 have h1:=h.op
 have h2:=h.ve
 have h3:=h.lim
 have h4:=h.st
 have h5:=h.th
 have h6:=h.sn
 have a:=Sm.rb h.mu (.inl rfl)
 have b:=Sm.rb h.al (.inl rfl)
 have c:=Sm.rb h.bet (.inr rfl)
 have d:=VW.wrb h
 exact⟨by show eS w.op;omega,by show eS w.ve;omega,by show eS w.lim;omega,⟨cv a.n,cv a.d⟩,⟨cv b.n,cv b.d⟩,⟨cv c.n,cv c.d⟩,by show eS w.st;omega,by show eS w.th;omega,by show eS w.sn;omega,⟨cv d.n,cv d.d⟩⟩
set_option maxHeartbeats 16000000 in
theorem O6{w0:World}{p:RS}{v fv:Value}{l:List WR}{fl:List Ft}(hE:En w0)(hA:Ak w0 p v l)(hF:Fk w0 fv fl)(hno:¬(uI p l/\tC fl)):Calls prog 24 #[vA p v,fv] w0 (bQ fun o w'=>bK w0 w'/\o=J0):=by
 have hV:=fun {W:World} (e:bK w0 W)=>kF (w0:=W) (hE.ext e) (hA.ext e)
 have hVF:=fun {W:World} (e:bK w0 W)=>JV (w0:=W) (hF.ext e)
 have hfv:=hF.hv
 by_cases hok:uI p l
 ·have hn:¬tC fl:=fun h=>hno ⟨hok,h⟩
  rw[mC hok]at hV
  rw[qH hn]at hVF
  have cc1:=@hV
  have cc2:=@hVF
  apply ml
  unfold iM
  have h:=Hp.init [] w0
  refine ep h fun g1 w h=>?_
  refine OE h (hfv.hp h) fun g2 w h=>?_
  refine du h fun g3 w h=>?_
  refine dy h 2 rfl rfl ?_
  refine ce h dZ (cc1 h.ext) fun w h=>?_
  refine ct (ah (Eng.ld1 h 1 rfl rfl (ah (ce h gF (cc2 h.ext) fun w h=>?_))))
  refine ah (d7 (aw (co (u7 PC.nil (by rfl) ?_))))
  refine de h 0 rfl rfl rfl rfl fun w h=>?_
  refine mj h 0 rfl rfl ?_
  dsimp only[List.set]at h
  exact bQ.mk ⟨h.ext,rfl⟩
 ·rw[kE hok]at hV
  have cc1:=@hV
  apply ml
  unfold iM
  have h:=Hp.init [] w0
  refine ep h fun g1 w h=>?_
  refine OE h (hfv.hp h) fun g2 w h=>?_
  refine du h fun g3 w h=>?_
  refine dy h 2 rfl rfl ?_
  refine ce h dZ (cc1 h.ext) fun w h=>?_
  refine d7 (aR (aR (aR (aQ (co (u7 PC.nil (by rfl) ?_))))))
  refine de h 0 rfl rfl rfl rfl fun w h=>?_
  refine mj h 0 rfl rfl ?_
  dsimp only[List.set]at h
  exact bQ.mk ⟨h.ext,rfl⟩
set_option maxHeartbeats 16000000 in
theorem Fy{w0:World}{B:Rat}{v fv:Value}{ws:List Wt}{fl:List Ft}(hE:En w0)(hA:Ak w0 (tx B) v (ws.map wr))(hF:Fk w0 fv fl)(hVA:VA B ws)(hVF:tC fl):Calls prog 24 #[vA (tx B) v,fv] w0
 (bQ fun o w'=>(¬VA B (obs ws fl)/\bK w0 w'/\o=J0)\/(VA B (obs ws fl)/\∃ u rv,o=.tuple #[vA (tx B) u,rv,.int .i64 0]/\Hp [] w0 w' [ro gM 15 u ws.length (((obs ws fl).map wr).flatMap fW),ro 3 1 rv (dD ws (obs ws fl) 0).length ((dD ws (obs ws fl) 0).flatMap fN)])):=by
 have hok:uI (tx B) (ws.map wr):=⟨B,ws,rfl,rfl,hVA⟩
 have cc1:=fun {W:World} (e:bK w0 W)=>kF (w0:=W) (hE.ext e) (hA.ext e)
 rw[mC hok]at cc1
 have cc2:=fun {W:World} (e:bK w0 W)=>JV (w0:=W) (hF.ext e)
 rw[rS hVF]at cc2
 have hfv:=hF.hv
 have hl12:=hVA.len
 have hlm:(ws.map wr).length=ws.length:=List.length_map _
 have hf400:=hVF.1
 apply ml
 unfold iM
 have h:=Hp.init [] w0
 refine ep h fun g1 w h=>?_
 refine OE h (hfv.hp h) fun g2 w h=>?_
 refine du h fun g3 w h=>?_
 refine dy h 2 rfl rfl ?_
 refine ce h dZ (cc1 h.ext) fun w h=>?_
 refine ct (ah (Eng.ld1 h 1 rfl rfl (ah (ce h gF (cc2 h.ext) fun w h=>?_))))
 refine ah (ct (aw (cf (dy h 2 rfl rfl ?_))))
 refine cu Aj (J7 (w0:=w) (p:=tx B) (hA.hv.ext h.ext) hA.hl) ?_
 rintro _ w1 ⟨gy,u,rfl,h1⟩
 have h:=h.cat2 h1 xu dM
 refine du h fun g8 w h=>?_
 refine cu pM (Nr (g:=gy)) ?_
 rintro _ w2 ⟨b,rfl,h2⟩
 have h:=h.cat1 h2 xu
 clear h1 h2 cc1 cc2
 have h:=h.nil 3 1
 have h:=h.pick [1,3,4,2,0,5,6,7] (by decide) rfl
 rw[hlm]at h
 have hsz:=h.size
 refine Exists.elim (Ns (h.get (i:=2) rfl:World.ownsRow _ _ _ _ _ _ _)) fun gr hu=>?_
 have nr:∀ {W:World} {i:Nat} {rv:Value},Hp [] w0 W [bx b Pd [pr gy 0],bx gy Nq [bh (tx B).1,bh (tx B).2,u],ro gM 15 u ws.length (cO ws fl i),bx g8 Q5 [rv],ro 3 1 rv (rG ws fl i).length ((rG ws fl i).flatMap fN),bx g3 jA [bh [],bh [],.slice none 0 0],bx g2 Q6 [fv],bx g1 jA [bh (tx B).1,bh (tx B).2,v]]->∀ k∈List.flatMap Et.ks [bx b Pd [pr gy 0],bx gy Nq [bh (tx B).1,bh (tx B).2,u],ro gM 15 u ws.length (cO ws fl i),bx g8 Q5 [rv],ro 3 1 rv (rG ws fl i).length ((rG ws fl i).flatMap fN),bx g3 jA [bh [],bh [],.slice none 0 0],bx g2 Q6 [fv],bx g1 jA [bh (tx B).1,bh (tx B).2,v]],k < w2.heap.size\/zE W.heap[k]?=false:=fun {W} {i} {rv} h k hk=>by
  refine .inr ?_
  obtain⟨e,he,hk⟩:=List.mem_flatMap.1 hk
  obtain⟨q,hq⟩:=List.getElem?_of_mem he
  have hg:=h.get hq
  have hcase:(∃ g ty cs,e=bx g ty cs)\/(∃ ty c v n xs,e=ro ty c v n xs):=by
   simp only[List.mem_cons,List.not_mem_nil,or_false]at he
   rcases he with rfl | rfl | rfl | rfl | rfl | rfl | rfl | rfl
   ·exact .inl ⟨_,_,_,rfl⟩
   ·exact .inl ⟨_,_,_,rfl⟩
   ·exact .inr ⟨_,_,_,_,_,rfl⟩
   ·exact .inl ⟨_,_,_,rfl⟩
   ·exact .inr ⟨_,_,_,_,_,rfl⟩
   ·exact .inl ⟨_,_,_,rfl⟩
   ·exact .inl ⟨_,_,_,rfl⟩
   ·exact .inl ⟨_,_,_,rfl⟩
  rcases hcase with ⟨g,ty,cs,rfl⟩ | ⟨ty,c,v,n,xs,rfl⟩
  ·have:k=g:=by simpa using hk
   subst this
   exact cM.nrec hg
  ·exact Mb hg k hk
 refine Ha.mk 91 #[pr b 0] (D6 ws.length gr) (fun i W=>∃ rv,Hp [] w0 W [bx b Pd [pr gy 0],bx gy Nq [bh (tx B).1,bh (tx B).2,u],ro gM 15 u ws.length (cO ws fl i),bx g8 Q5 [rv],ro 3 1 rv (rG ws fl i).length ((rG ws fl i).flatMap fN),bx g3 jA [bh [],bh [],.slice none 0 0],bx g2 Q6 [fv],bx g1 jA [bh (tx B).1,bh (tx B).2,v]]) (fun _ _=>False) rfl nP
  (J8 hu (by omega) (g:=gy) fun i W ⟨rv,h⟩=>⟨(h.get (i:=0) rfl:cM _ _ _ _).cell rfl,(h.get (i:=1) rfl:cM _ _ _ _).cell rfl⟩) (fun i W W' ⟨rv,h⟩ b=>⟨rv,h.bk2 (nr h) hsz b⟩) (fun _ _ _ h _=>h) ⟨.slice none 0 0,h⟩ ?_ ?_ (fun _ _ _ _ h=>h.elim) (by simp)
 ·rintro a0 a1 i W hi ⟨rv,h⟩ hs
  have hin:i < ws.length:=by
   have:=(List.getElem?_eq_some_iff.1 hi).1
   simpa using this
  rw[zK hin]at hi
  obtain⟨rfl,rfl⟩:=Prod.mk.inj (Option.some.inj hi)
  obtain⟨cap,hcap⟩:=hu.some (by omega)
  refine Exists.elim (p:=fun x=>ws[i]?=some x) ⟨_,List.getElem?_eq_getElem hin⟩ fun wt hx=>?_
  have hV:=hVA.ok wt (List.mem_of_getElem? hx)
  have sm:=hV.mu
  have sb:=hV.bet
  have hAl:=O4 (ws:=ws) (fl:=fl) (i:=i) (by omega)
  have nr2:=nr h
  rw[O5 hx]at h nr2
  replace h:=h.fr w2.heap.size (by omega) nr2
  clear nr2
  have sg:=Fx (B:=cB ws i) hAl (cs:=cT wt)
  refine hH ?_
  replace h:=h.dr
  refine di (E0 h 3 rfl ‹_› sg (by rfl) ?_)
  refine cu EA (Q2 (hE.ext h.ext) sm sb (dj.seg (h.rc 3 rfl hcap) sg)) ?_
  rintro _ w3 ⟨gw,gl,rfl,h1⟩
  have h:=h.cat2 h1 xu xu
  clear h1
  have h:=h.pick [0,1,5,6,7,2,3,4,8,9,10] (by decide) rfl
  refine UY h 2 rfl ‹_› sg (by rfl) ?_
  refine Eng.ld1 h 9 rfl rfl (gS (hfv.hp h) ?_)
  obtain⟨mn,hmn⟩:∃ mn,Se w2.heap.size W=mn:=⟨_,rfl⟩
  rw[hmn]at h
  have hkf:∀ {W'},mn.Q W'->Kf w2.heap.size W W':=fun {W'} hq=>by rw[<-hmn]at hq;exact hq
  clear hmn
  have hrl:(rG ws fl i).length<=12:=by
   have:=Alm.nf (ws.take i) (obs (ws.take i) fl) 0
   have h2:(ws.take i).length<=ws.length:=by rw[List.length_take];omega
   unfold rG;omega
  refine jt.mk (fun a W=>∃(j:Nat) (rv:Value),j<=fl.length/\a=.int .i64 j/\Hp [] w0 W (bx gw tR (fR (tx (gO wt true)))::bx gl tR (fR (tx (gO wt false)))::ro gM 15 u ws.length (cA ws fl i++cT (obs1 wt.th wt (fl.take j))++cB ws i)::bx g8 Q5 [rv]::ro 3 1 rv (rG ws fl i++if(!wt.ru && (obs1 wt.th wt (fl.take j)).ru) then [i] else []).length ((rG ws fl i++if(!wt.ru && (obs1 wt.th wt (fl.take j)).ru) then [i] else []).flatMap fN)::[mn,bx b Pd [pr gy 0],bx gy Nq [bh (tx B).1,bh (tx B).2,u],bx g3 jA [bh [],bh [],.slice none 0 0],bx g2 Q6 [fv],bx g1 jA [bh (tx B).1,bh (tx B).2,v]]))
   (fun a _=>match a with | .int _ x=>fl.length - x.toNat | _=>0) ⟨0,rv,by omega,rfl,?_⟩ ?_
  ·have e0:(!wt.ru && (obs1 wt.th wt (fl.take 0)).ru)=false:=by
    show(!wt.ru && wt.ru)=false
    cases wt.ru <;> rfl
   rw[e0,if_neg (by decide),List.append_nil]
   exact h
  clear h sg nr
  rintro _ W3 ⟨j,rv3,hj,rfl,h⟩
  by_cases hjl:j < fl.length
  ·refine Exists.elim (p:=fun x=>fl[j]?=some x) ⟨_,List.getElem?_eq_getElem hjl⟩ fun f hf=>?_
   have sf:iY (fl.flatMap fF) (j * 10) (fF f):=cZ (f:=fF) (fun _=>rfl) hf
   have hfm:=List.mem_of_getElem? hf
   have hVj:=Alm.VW.obs1 wt.th (l:=fl.take j) hV fun x hx=>(hVF.2.1 x (List.mem_of_mem_take hx)).1.2
   have e1:=J1 wt.th wt (fl.take j)
   have fx:=Alm.sX wt wt.th (fl.take j)
   have hlt:(fl.take j).length<=400:=by rw[List.length_take];omega
   have hrn:(rG ws fl i++if(!wt.ru && (obs1 wt.th wt (fl.take j)).ru) then [i] else []).length<=1000:=by
    rw[List.length_append];split <;> simp <;> omega
   refine cy (by omega) (co (lU h ‹_› (by omega) fun zb zo zk zv zc=>?_))
   refine wD h ‹_› ‹_› (by rfl) ?_
   refine Q4 (wt:=obs1 wt.th wt (fl.take j)) (th0:=wt.th) (m:=1000000+(fl.take j).length) hAl hin hE (by omega) hrn (by omega) hcap hVj (by omega) (hF.hi f hfm) (hVF.2.1 f hfm).1.2 (by have:=hV.th;have:=hV.st;omega)
    (by rw[fx.2.2.2.2.1];have:=hV.op;omega) (by rw[fx.2.2.2.2.2.1];have:=hV.ve;omega) (by rw[fx.2.2.1];have:=hV.lim;omega) (fun W4 rv4 h=>?_) (by rw[e1,e1];exact h)
   rw[e1,e1,<-Alm.BX hf]at h
   refine⟨⟨j+1,rv4,by omega,rfl,?_⟩,by show fl.length - ((j:Int)+1).toNat < fl.length - (j:Int).toNat;omega⟩
   have rs:=Alm.H8 (t:=wt.th) (w:=wt) (v:=obs1 wt.th wt (fl.take j)) (f:=f) (i:=i) (fun hr=>fx.2.2.2.2.2.2.2 hr)
   rw[<-Alm.BX hf]at rs
   rw[List.append_assoc (rG ws fl i),rs]at h
   exact h
  have hjl':j=fl.length:=by omega
  subst hjl'
  rw[List.take_length,<-GX hx,<-Mc hx]at h
  refine cD (by omega) (cf ?_)
  exact⟨⟨_,h.pick [6,7,2,3,4,8,9,10] (by decide) rfl⟩,hkf (h.get (i:=5) rfl)⟩
 ·rintro D W hD hd ⟨rv,h⟩
  rw[show(D6 ws.length gr).length=ws.length by simp]at h
  have nr2:=nr h
  rw[Tl,Q7]at h nr2
  have hnD:D ∉ List.flatMap Et.ks [bx b Pd [pr gy 0],bx gy Nq [bh (tx B).1,bh (tx B).2,u],ro gM 15 u ws.length (((obs ws fl).map wr).flatMap fW),bx g8 Q5 [rv],ro 3 1 rv (dD ws (obs ws fl) 0).length ((dD ws (obs ws fl) 0).flatMap fN),bx g3 jA [bh [],bh [],.slice none 0 0],bx g2 Q6 [fv],bx g1 jA [bh (tx B).1,bh (tx B).2,v]]:=fun hc=>by
   rcases nr2 D hc with h1 | h1
   ·omega
   ·rw[hd]at h1;cases h1
  clear nr nr2
  replace h:=h.df hd (by omega) hnD
  clear hd hnD
  have hA2:∀ {W:World},Hp [] w0 W [ro gM 15 u ws.length (((obs ws fl).map wr).flatMap fW)]->Ak W (tx B) u ((obs ws fl).map wr):=fun {W} h=>by
   have hlen:((obs ws fl).map wr).length=ws.length:=by rw[List.length_map,Alm.qB]
   have hrb:=Sm.rb hVA.b (.inl rfl)
   refine⟨⟨cv hrb.n,cv hrb.d⟩,by rw[hlen];exact h.sl (i:=0) rfl,fun r hr=>?_,by rw[hlen];omega⟩
   obtain⟨w,hw,rfl⟩:=List.mem_map.1 hr
   obtain⟨w',hw',rfl⟩:=List.mem_map.1 hw
   exact Cx (Alm.VW.obs1 w'.th (hVA.ok w' hw') fun x hx=>(hVF.2.1 x hx).1.2) (by omega)
  refine cu gX (CA (hE.ext h.ext) (hA2 (h.pick [3] (by decide) rfl)) (h.get (i:=2) rfl)) ?_
  rintro _ w' ⟨x,rfl⟩
  have h:=h.x x
  by_cases hok2:VA B (obs ws fl)
  ·have e:wu (tx B) ((obs ws fl).map wr)=true:=mC ⟨B,_,rfl,rfl,hok2⟩
   rw[e]
   refine Exists.elim (qZ 3 h rfl).key fun qa hq=>Exists.elim hq fun ql hq=>Exists.elim hq fun qm hq=>?_
   have hq:=hq.1
   subst hq
   refine gN (du h fun g4 w h=>?_)
   refine de h 0 rfl rfl rfl rfl fun w h=>?_
   refine cE (by omega) (cf ?_)
   replace h:=h.dr
   refine fu h 0 rfl rfl ?_
   refine iX h 5 rfl rfl (de h 7 rfl rfl rfl rfl fun w h=>?_)
   refine fU h 5 rfl rfl (P6 h 1 rfl fun w h=>?_)
   refine mj h 7 rfl rfl ?_
   dsimp only[List.set]at h
   exact bQ.mk (.inr ⟨hok2,_,_,rfl,h.pick [4,6] (by decide) rfl⟩)
  ·have e:wu (tx B) ((obs ws fl).map wr)=false:=kE fun⟨B',ws',e1,e2,h⟩=>hok2 (by
    obtain rfl:=eZ e1
    obtain rfl:=tj e2
    exact h)
   rw[e]
   refine gN (du h fun g4 w h=>?_)
   refine de h 0 rfl rfl rfl rfl fun w h=>?_
   refine gi (by omega) (co (u7 PC.nil (by rfl) ?_))
   refine de h 7 rfl rfl rfl rfl fun w h=>?_
   refine P6 h 1 rfl fun w h=>?_
   refine mj h 7 rfl rfl ?_
   dsimp only[List.set]at h
   exact bQ.mk (.inl ⟨hok2,h.ext,rfl⟩)
end Go.Proofs.YtnkmbjedcjcccaaGreatDoor
namespace Go.Proofs.YtnkmbjedcjcccaaGreatDoor
open Tryz
open Go Go.Eng Go.Proofs Go.Num Go.RowKit
open Go.Alm (Ft Wt Sm VW VA dn gO obs obs1 dD obsN)
set_option maxRecDepth 100000
theorem J2{l:List Ft}(h:HL l):∀ {d i:Nat} {a b:Ft},l[i]?=some a->l[i+d]?=some b->a.tr<=b.tr
 | 0,i,a,b,ha,hb=>by rw[Nat.add_zero]at hb;rw[ha]at hb;cases hb;exact Int.le_refl _
 | d+1,i,a,b,ha,hb=>by
  have h1:=(List.getElem?_eq_some_iff.1 hb).1
  have h2:l[i+d]?=some (l[i+d]'(by omega)):=List.getElem?_eq_getElem (by omega)
  have h3:=J2 h ha h2
  have h4:=h (i+d) _ b h2 hb
  omega
theorem Md{l:List Ft}(h:HL l){k:Nat}{f:Ft}(hk:l.length=k+1)(hf:l[k]?=some f):∀ g∈l,g.tr<=f.tr:=fun g hg=>by
 obtain⟨i,hi⟩:=List.getElem?_of_mem hg
 have h1:=(List.getElem?_eq_some_iff.1 hi).1
 exact J2 h (d:=k - i) hi (by rw[show i+(k - i)=k by omega];exact hf)
theorem Me{ws:List Wt}{fl:List Ft}{i:Nat}{w:Wt}(hx:ws[i]?=some w):cA ws fl (i+1)=cA ws fl i++cT (obs1 w.th w fl):=by
 unfold cA
 rw[Alm.Az hx,List.map_append,List.flatMap_append]
 rfl
theorem Tm{a b:Wt}{x:Int}(h:b={ a with th:=x }):cT a=cW b.op b.ve b.lim (tx b.mu) (tx b.al) (tx b.bet) b.st a.th b.sn (tx b.we) b.ru:=by subst h;rfl
abbrev vC(op ve lim:Int)(m a b:RS)(st th sn:Int)(we:RS)(ru:Bool):Value:=.agg #[.int .i64 op,.int .i64 ve,.int .i64 lim,bh m.1,bh m.2,bh a.1,bh a.2,bh b.1,bh b.2,.int .i64 st,.int .i64 th,.int .i64 sn,bh we.1,bh we.2,.bool ru]
set_option maxHeartbeats 16000000 in
theorem Mf{w0:World}{p:RS}{v fv:Value}{l:List WR}{fl:List Ft}(hA:Ak w0 p v l)(hF:Fk w0 fv fl)(hno:¬(uI p l/\tC fl)):Calls prog 25 #[vA p v,fv] w0 (bQ fun o w'=>bK w0 w'/\o=J0):=by
 have hV:=fun {W:World} (e:bK w0 W)=>iC (w0:=W) (hA.ext e)
 have hVF:=fun {W:World} (e:bK w0 W)=>Fv (w0:=W) (hF.ext e)
 have hfv:=hF.hv
 by_cases hok:uI p l
 ·have hn:¬tC fl:=fun h=>hno ⟨hok,h⟩
  rw[mC hok]at hV
  rw[qH hn]at hVF
  have cc1:=@hV
  have cc2:=@hVF
  apply mt
  unfold j0
  have h:=Hp.init [] w0
  refine ep h fun g1 w h=>?_
  refine du h fun g2 w h=>?_
  refine dy h 1 rfl rfl ?_
  refine ce h dz (cc1 h.ext) fun w h=>?_
  refine ct (ah (ah (ce h gG (cc2 h.ext) fun w h=>?_)))
  refine ah (d7 (aw (co (u7 PC.nil (by rfl) ?_))))
  refine de h 0 rfl rfl rfl rfl fun w h=>?_
  refine mj h 0 rfl rfl ?_
  dsimp only[List.set]at h
  exact bQ.mk ⟨h.ext,rfl⟩
 ·rw[kE hok]at hV
  have cc1:=@hV
  apply mt
  unfold j0
  have h:=Hp.init [] w0
  refine ep h fun g1 w h=>?_
  refine du h fun g2 w h=>?_
  refine dy h 1 rfl rfl ?_
  refine ce h dz (cc1 h.ext) fun w h=>?_
  refine d7 (aR (aR (aR (aQ (co (u7 PC.nil (by rfl) ?_))))))
  refine de h 0 rfl rfl rfl rfl fun w h=>?_
  refine mj h 0 rfl rfl ?_
  dsimp only[List.set]at h
  exact bQ.mk ⟨h.ext,rfl⟩
set_option maxHeartbeats 16000000 in
theorem GY{w0:World}{B:Rat}{v fv:Value}{ws:List Wt}{fl:List Ft}(hA:Ak w0 (tx B) v (ws.map wr))(hF:Fk w0 fv fl)(hVA:VA B ws)(hVF:tC fl):Calls prog 25 #[vA (tx B) v,fv] w0
 (bQ fun o w'=>(¬VA B (obs ws fl)/\bK w0 w'/\o=J0)\/(VA B (obs ws fl)/\∃ u rv,o=.tuple #[vA (tx B) u,rv,.int .i64 0]/\Hp [] w0 w' [ro gM 15 u ws.length (((obs ws fl).map wr).flatMap fW),ro 3 1 rv (dD ws (obs ws fl) 0).length ((dD ws (obs ws fl) 0).flatMap fN)])):=by
 have hok:uI (tx B) (ws.map wr):=⟨B,ws,rfl,rfl,hVA⟩
 have cc1:=fun {W:World} (e:bK w0 W)=>iC (w0:=W) (hA.ext e)
 rw[mC hok]at cc1
 have cc2:=fun {W:World} (e:bK w0 W)=>Fv (w0:=W) (hF.ext e)
 rw[rS hVF]at cc2
 have hfv:=hF.hv
 have hl12:=hVA.len
 have hlm:(ws.map wr).length=ws.length:=List.length_map _
 have hv:dJ w0 15 v ws.length ((ws.map wr).flatMap fW):=by have:=hA.hv;rw[hlm]at this;exact this
 have hf400:=hVF.1
 apply mt
 unfold j0
 have h:=Hp.init [] w0
 refine ep h fun g1 w h=>?_
 refine du h fun g2 w h=>?_
 refine dy h 1 rfl rfl ?_
 refine ce h dz (cc1 h.ext) fun w h=>?_
 refine ct (ah (ah (ce h gG (cc2 h.ext) fun w h=>?_)))
 refine ah (ct (aw (cf (ck (dy h 1 rfl rfl ?_)))))
 refine u7 (PC.cons (by rfl) PC.nil) (by rfl) ?_
 refine du h fun g3 w h=>?_
 refine de h 0 rfl rfl rfl rfl fun w h=>?_
 dsimp only[List.set]at h
 clear cc1 cc2
 have h:=(h.nil gM 15).nil 3 1
 refine uN.mk (fun a b W=>∃(i:Nat) (rv uo:Value),i<=ws.length/\b=.int .i64 i/\a=rv/\Hp [] w0 W [ro 3 1 rv (rG ws fl i).length ((rG ws fl i).flatMap fN),ro gM 15 uo i (cA ws fl i),bx g3 jA [bh (tx B).1,bh (tx B).2,uo],bx g2 jA [bh [],bh [],.slice none 0 0],bx g1 jA [bh (tx B).1,bh (tx B).2,v]])
  (fun _ b _=>match b with | .int _ x=>ws.length - x.toNat | _=>0) ⟨0,.slice none 0 0,.slice none 0 0,by omega,rfl,rfl,h⟩ ?_
 clear h
 rintro rv _ W ⟨i,_,uo,hi,rfl,rfl,h⟩
 by_cases hin:i < ws.length
 ·refine Exists.elim (p:=fun x=>ws[i]?=some x) ⟨_,List.getElem?_eq_getElem hin⟩ fun wt hx=>?_
  have hx':(ws.map wr)[i]?=some (wr wt):=by rw[List.getElem?_map,hx];rfl
  have sx:iY ((ws.map wr).flatMap fW) (i * 15) (cT wt):=cZ (f:=fW) (fun _=>rfl) hx'
  have hV:=hVA.ok wt (List.mem_of_getElem? hx)
  have hrl:(rG ws fl i).length<=12:=by
   have:=Alm.nf (ws.take i) (obs (ws.take i) fl) 0
   have h2:(ws.take i).length<=ws.length:=by rw[List.length_take];omega
   unfold rG;omega
  refine ck (Eng.ld1 h 4 rfl rfl (gS (hv.hp h) ?_))
  refine cy (by omega) (co (ck (Eng.ld1 h 4 rfl rfl (lU h ‹_› (by omega) fun zb zo zk zv zc=>?_))))
  refine wD h ‹_› ‹_› (by rfl) ?_
  refine du h fun g4 w h=>?_
  refine de h 0 rfl rfl rfl rfl fun w h=>?_
  refine ck (Eng.ld1 h 0 rfl rfl ?_)
  dsimp only[List.set]at h
  refine uN.mk (fun a b W=>∃(j:Nat) (rv2:Value),j<=fl.length/\b=.int .i64 j/\a=rv2/\Hp [] w0 W [bx g4 gM (cT (obsN wt.th wt (fl.take j))),ro 3 1 rv2 (rG ws fl i++if(!wt.ru && (obsN wt.th wt (fl.take j)).ru) then [i] else []).length ((rG ws fl i++if(!wt.ru && (obsN wt.th wt (fl.take j)).ru) then [i] else []).flatMap fN),ro gM 15 uo i (cA ws fl i),bx g3 jA [bh (tx B).1,bh (tx B).2,uo],bx g2 jA [bh [],bh [],.slice none 0 0],bx g1 jA [bh (tx B).1,bh (tx B).2,v]])
   (fun _ b _=>match b with | .int _ x=>fl.length - x.toNat | _=>0) ⟨0,rv,by omega,rfl,rfl,?_⟩ ?_
  ·have e0:(!wt.ru && (obsN wt.th wt (fl.take 0)).ru)=false:=by
    show(!wt.ru && wt.ru)=false
    cases wt.ru <;> rfl
   rw[e0,if_neg (by decide),List.append_nil]
   exact h
  clear h
  rintro rv3 _ W3 ⟨j,_,hj,rfl,rfl,h⟩
  by_cases hjl:j < fl.length
  ·refine Exists.elim (p:=fun x=>fl[j]?=some x) ⟨_,List.getElem?_eq_getElem hjl⟩ fun f hf=>?_
   have sf:iY (fl.flatMap fF) (j * 10) (fF f):=cZ (f:=fF) (fun _=>rfl) hf
   have hfm:=List.mem_of_getElem? hf
   have hVj:=Alm.VW.obsN hV wt.th (l:=fl.take j) fun x hx=>(hVF.2.1 x (List.mem_of_mem_take hx)).1.2
   have hlt:(fl.take j).length<=400:=by rw[List.length_take];omega
   have e1:=Alm.H9 (t:=wt.th) (w:=wt) hf
   have hst:=hV.st
   have hth:=hV.th
   have hfi:=hF.hi f hfm
   have f1:=hfi.tr
   have f4:=hfi.ve
   have f5:=hfi.op
   have f8:=hfi.lo
   have hf9:=(hVF.2.1 f hfm).1.2
   have hf0:=(hVF.2.1 f hfm).1.1
   have hrn:(rG ws fl i++if(!wt.ru && (obsN wt.th wt (fl.take j)).ru) then [i] else []).length<=1000:=by
    rw[List.length_append];split <;> simp <;> omega
   have hwru:wt.ru=true->(obsN wt.th wt (fl.take j)).ru=true:=fun hr=>by
    rw[Alm.Ho]
    exact(Alm.sX wt wt.th (fl.take j)).2.2.2.2.2.2.2 hr
   refine Exists.elim (p:=fun v1=>obsN wt.th wt (fl.take j)=v1) ⟨_,rfl⟩ fun v1 hv1=>?_
   rw[hv1]at h hrn hVj hwru e1
   by_cases hru:v1.ru=true
   ·have e2:cT v1=cW v1.op v1.ve v1.lim (tx v1.mu) (tx v1.al) (tx v1.bet) v1.st v1.th v1.sn (tx v1.we) true:=by rw[<-hru]
    rw[e2]at h
    refine gS (hfv.hp h) ?_
    refine cy (by omega) (co ?_)
    replace h:=h.dr
    refine di (iX h 0 rfl rfl (Hb (cw (cw (cw (cw (cw (cw (cw (cw (dh (cw (cw (cw (cw (cw (cw (cw (cw (dh (cw (cw (cw (cw (cw (cw (cw (dh (cf (cF (by omega) (by omega) ?_))))))))))))))))))))))))))))))
    have sk:Alm.AA wt.th v1 f=v1:=by unfold Alm.AA Alm.kQ;rw[hru];rfl
    exact⟨⟨j+1,_,by omega,rfl,rfl,by rw[e1,sk,e2];exact h⟩,by show fl.length - ((j:Int)+1).toNat < fl.length - (j:Int).toNat;omega⟩
   replace hru:v1.ru=false:=eq_false_of_ne_true hru
   have e2:cT v1=cW v1.op v1.ve v1.lim (tx v1.mu) (tx v1.al) (tx v1.bet) v1.st v1.th v1.sn (tx v1.we) false:=by rw[<-hru]
   rw[e2]at h
   by_cases ho:f.op=v1.op
   rotate_left
   ·refine gS (hfv.hp h) ?_
    refine cy (by omega) (co ?_)
    replace h:=h.dr
    refine di (iX h 0 rfl rfl (xz (bP (bP (bP (nT h ‹_› (by omega) fun zb zo zk zv zc=>?_))))))
    refine bP (di (bP (pT h ‹_› ‹_› (by rfl) ?_)))
    refine bP (di (bP (iX h 0 rfl rfl (bP (FY (by omega) (cG (cw (cw (cw (cw (cw (cw (cw (cw (dh (cw (cw (cw (cw (cw (cw (cw (dh (cf (cF (by omega) (by omega) ?_)))))))))))))))))))))))))
    have sk:Alm.AA wt.th v1 f=v1:=by unfold Alm.AA Alm.kQ;rw[hru,beq_eq_false_iff_ne.2 ho];rfl
    exact⟨⟨j+1,_,by omega,rfl,rfl,by rw[e1,sk,e2];exact h⟩,by show fl.length - ((j:Int)+1).toNat < fl.length - (j:Int).toNat;omega⟩
   by_cases hve:f.ve=v1.ve
   rotate_left
   ·refine gS (hfv.hp h) ?_
    refine cy (by omega) (co ?_)
    replace h:=h.dr
    refine di (iX h 0 rfl rfl (xz (bP (bP (bP (nT h ‹_› (by omega) fun zb zo zk zv zc=>?_))))))
    refine bP (di (bP (pT h ‹_› ‹_› (by rfl) ?_)))
    refine bP (di (bP (iX h 0 rfl rfl (bP (jh (by omega) (cG (bP (bP (bP (nT h ‹_› (by omega) fun zb zo zk zv zc=>?_))))))))))
    refine bP (di (bP (pT h ‹_› ‹_› (by rfl) ?_)))
    refine bP (di (bP (iX h 0 rfl rfl (bP (FY (by omega) (cG (cw (cw (cw (cw (cw (cw (cw (dh (cf (cF (by omega) (by omega) ?_))))))))))))))))
    have sk:Alm.AA wt.th v1 f=v1:=by unfold Alm.AA Alm.kQ;rw[hru,beq_eq_false_iff_ne.2 hve,Bool.and_false,Bool.false_and];rfl
    exact⟨⟨j+1,_,by omega,rfl,rfl,by rw[e1,sk,e2];exact h⟩,by show fl.length - ((j:Int)+1).toNat < fl.length - (j:Int).toNat;omega⟩
   by_cases htr:f.tr<=wt.th
   ·refine gS (hfv.hp h) ?_
    refine cy (by omega) (co ?_)
    replace h:=h.dr
    refine di (iX h 0 rfl rfl (xz (bP (bP (bP (nT h ‹_› (by omega) fun zb zo zk zv zc=>?_))))))
    refine bP (di (bP (pT h ‹_› ‹_› (by rfl) ?_)))
    refine bP (di (bP (iX h 0 rfl rfl (bP (jh (by omega) (cG (bP (bP (bP (nT h ‹_› (by omega) fun zb zo zk zv zc=>?_))))))))))
    refine bP (di (bP (pT h ‹_› ‹_› (by rfl) ?_)))
    refine bP (di (bP (iX h 0 rfl rfl (bP (jh (by omega) (cG (bP (bP (bP (nT h ‹_› (by omega) fun zb zo zk zv zc=>?_))))))))))
    refine bP (di (bP (pT h ‹_› ‹_› (by rfl) ?_)))
    refine bP (bP (pZ (by omega) (cG (cf (cF (by omega) (by omega) ?_)))))
    have sk:Alm.AA wt.th v1 f=v1:=by unfold Alm.AA Alm.kQ;rw[decide_eq_false (show ¬wt.th < f.tr by omega),Bool.and_false];rfl
    exact⟨⟨j+1,_,by omega,rfl,rfl,by rw[e1,sk,e2];exact h⟩,by show fl.length - ((j:Int)+1).toNat < fl.length - (j:Int).toNat;omega⟩
   have hc:Alm.AA wt.th v1 f=Alm.look v1 (decide (v1.lim < f.lo)):=by unfold Alm.AA Alm.kQ;rw[hru,decide_eq_true (show wt.th < f.tr by omega),ho,hve,beq_self_eq_true,beq_self_eq_true];rfl
   rw[hc]at e1
   refine Exists.elim (p:=fun late=>decide (v1.lim < f.lo)=late) ⟨_,rfl⟩ fun late hlate=>?_
   rw[hlate]at e1
   have cc1:=fun {W:World} (e:bK w0 W)=>JZ (w0:=W) hVj (by omega) hru late
   have hsn:=hVj.sn
   have e3:(rG ws fl i++if(!wt.ru && v1.ru)=true then [i] else [])=rG ws fl i:=by rw[hru,Bool.and_false,if_neg (by decide),List.append_nil]
   rw[e3]at h hrn
   by_cases hwn:Alm.Dn (dn (v1.we * gO v1 late)) v1.al=true
   ·have hwr:wt.ru=false:=eq_false_of_ne_true fun hc=>by have:=hwru hc;rw[hru]at this;cases this
    have e7:vW (wr (Alm.look v1 late))=vC v1.op v1.ve v1.lim (tx v1.mu) (tx v1.al) (tx v1.bet) v1.st v1.th (v1.sn+1) (tx (dn (v1.we * gO v1 late))) true:=by rw[<-hwn];rfl
    have e8:cT (Alm.look v1 late)=cW v1.op v1.ve v1.lim (tx v1.mu) (tx v1.al) (tx v1.bet) v1.st v1.th (v1.sn+1) (tx (dn (v1.we * gO v1 late))) true:=by rw[<-hwn];rfl
    have e9:(Alm.look v1 late).ru=true:=hwn
    rw[e7]at cc1
    rw[show wr v1=⟨v1.op,v1.ve,v1.lim,tx v1.mu,tx v1.al,tx v1.bet,v1.st,v1.th,v1.sn,tx v1.we,false⟩ by rw[<-hru]]at cc1
    clear hwn
    refine gS (hfv.hp h) ?_
    refine cy (by omega) (co ?_)
    replace h:=h.dr
    refine di (iX h 0 rfl rfl (xz (bP (bP (bP (nT h ‹_› (by omega) fun zb zo zk zv zc=>?_))))))
    refine bP (di (bP (pT h ‹_› ‹_› (by rfl) ?_)))
    refine bP (di (bP (iX h 0 rfl rfl (bP (jh (by omega) (cG (bP (bP (bP (nT h ‹_› (by omega) fun zb zo zk zv zc=>?_))))))))))
    refine bP (di (bP (pT h ‹_› ‹_› (by rfl) ?_)))
    refine bP (di (bP (iX h 0 rfl rfl (bP (jh (by omega) (cG (bP (bP (bP (nT h ‹_› (by omega) fun zb zo zk zv zc=>?_))))))))))
    refine bP (di (bP (pT h ‹_› ‹_› (by rfl) ?_)))
    refine bP (bP (nC (by omega) (cG (co ?_))))
    replace h:=h.dr
    refine fu h 0 rfl rfl ?_
    refine nT h ‹_› (by omega) fun zb zo zk zv zc=>?_
    refine di (pT h ‹_› ‹_› (by rfl) ?_)
    refine di (iX h 0 rfl rfl (O1 hlate ?_))
    refine ce h sQ (cc1 h.ext) fun w h=>?_
    refine de h 0 rfl rfl rfl rfl fun w h=>?_
    refine ck (Eng.ld1 h 0 rfl rfl (co (lA h (by rfl) (by decide) (by rfl) (by decide) fun v2 w h=>?_)))
    refine kq (by rfl) (by decide) h 2 rfl (qZ 0 h rfl) (by first | rfl | assumption) (by omega) fun v3 w h=>?_
    refine cF (by omega) (by omega) ?_
    dsimp only[List.set]at h
    exact⟨⟨j+1,_,by omega,rfl,rfl,by rw[e1,e8,e9,hwr,if_pos (by decide),List.length_append,List.flatMap_append];exact h.drop 1⟩,by show fl.length - ((j:Int)+1).toNat < fl.length - (j:Int).toNat;omega⟩
   ·replace hwn:=eq_false_of_ne_true hwn
    have e7:vW (wr (Alm.look v1 late))=vC v1.op v1.ve v1.lim (tx v1.mu) (tx v1.al) (tx v1.bet) v1.st v1.th (v1.sn+1) (tx (dn (v1.we * gO v1 late))) false:=by rw[<-hwn];rfl
    have e8:cT (Alm.look v1 late)=cW v1.op v1.ve v1.lim (tx v1.mu) (tx v1.al) (tx v1.bet) v1.st v1.th (v1.sn+1) (tx (dn (v1.we * gO v1 late))) false:=by rw[<-hwn];rfl
    have e9:(Alm.look v1 late).ru=false:=hwn
    rw[e7]at cc1
    rw[show wr v1=⟨v1.op,v1.ve,v1.lim,tx v1.mu,tx v1.al,tx v1.bet,v1.st,v1.th,v1.sn,tx v1.we,false⟩ by rw[<-hru]]at cc1
    clear hwn
    refine gS (hfv.hp h) ?_
    refine cy (by omega) (co ?_)
    replace h:=h.dr
    refine di (iX h 0 rfl rfl (xz (bP (bP (bP (nT h ‹_› (by omega) fun zb zo zk zv zc=>?_))))))
    refine bP (di (bP (pT h ‹_› ‹_› (by rfl) ?_)))
    refine bP (di (bP (iX h 0 rfl rfl (bP (jh (by omega) (cG (bP (bP (bP (nT h ‹_› (by omega) fun zb zo zk zv zc=>?_))))))))))
    refine bP (di (bP (pT h ‹_› ‹_› (by rfl) ?_)))
    refine bP (di (bP (iX h 0 rfl rfl (bP (jh (by omega) (cG (bP (bP (bP (nT h ‹_› (by omega) fun zb zo zk zv zc=>?_))))))))))
    refine bP (di (bP (pT h ‹_› ‹_› (by rfl) ?_)))
    refine bP (bP (nC (by omega) (cG (co ?_))))
    replace h:=h.dr
    refine fu h 0 rfl rfl ?_
    refine nT h ‹_› (by omega) fun zb zo zk zv zc=>?_
    refine di (pT h ‹_› ‹_› (by rfl) ?_)
    refine di (iX h 0 rfl rfl (O1 hlate ?_))
    refine ce h sQ (cc1 h.ext) fun w h=>?_
    refine de h 0 rfl rfl rfl rfl fun w h=>?_
    refine ck (Eng.ld1 h 0 rfl rfl (cf (cF (by omega) (by omega) ?_)))
    dsimp only[List.set]at h
    exact⟨⟨j+1,_,by omega,rfl,rfl,by rw[e1,e8,e9,Bool.and_false,if_neg (by decide),List.append_nil];exact h⟩,by show fl.length - ((j:Int)+1).toNat < fl.length - (j:Int).toNat;omega⟩
  have hjl':j=fl.length:=by omega
  have e0:=GX (fl:=fl) hx
  have e4:=Alm.Ho wt.th wt fl
  have e5:=Alm.AB wt.th fl wt
  have e6:fl.take j=fl:=by rw[hjl',List.take_length]
  rw[e6,e4,<-e0]at h
  refine Exists.elim (p:=fun v1=>obs1 wt.th wt fl=v1) ⟨_,rfl⟩ fun v1 hv1=>?_
  have eN:cT (obsN wt.th wt fl)=cW v1.op v1.ve v1.lim (tx v1.mu) (tx v1.al) (tx v1.bet) v1.st wt.th v1.sn (tx v1.we) v1.ru:=by
   have:=Tm e5
   rw[Alm.EL,hv1]at this
   exact this
  rw[eN]at h
  have hcA:=Me (fl:=fl) hx
  rw[hv1]at hcA
  refine gS (hfv.hp h) ?_
  refine cD (by omega) (cf (Iu.mk fun K lf=>?_))
  have lf1:∀ {W:World},Hp [] w0 W [bx g4 gM (cW v1.op v1.ve v1.lim (tx v1.mu) (tx v1.al) (tx v1.bet) v1.st v1.th v1.sn (tx v1.we) v1.ru),ro 3 1 rv3 (rG ws fl (i+1)).length ((rG ws fl (i+1)).flatMap fN),ro gM 15 uo i (cA ws fl i),bx g3 jA [bh (tx B).1,bh (tx B).2,uo],bx g2 jA [bh [],bh [],.slice none 0 0],bx g1 jA [bh (tx B).1,bh (tx B).2,v]]->K W:=fun {W} h=>lf W (by
   refine ck (Eng.ld1 h 3 rfl rfl (dy h 0 rfl rfl ?_))
   refine lA h (by rfl) (by decide) (by rfl) (by decide) fun v2 w h=>?_
   refine kq (by rfl) (by decide) h 3 rfl (qZ 0 h rfl) (by first | rfl | assumption) (by omega) fun v3 w h=>?_
   refine ck (HH h 4 rfl (qZ 3 h rfl) rfl fun w h=>?_)
   refine cF (by omega) (by omega) ?_
   dsimp only[List.set]at h
   exact⟨⟨i+1,_,_,by omega,rfl,rfl,by rw[hcA];exact h.drop 2⟩,by show ws.length - ((i:Int)+1).toNat < ws.length - (i:Int).toNat;omega⟩)
  clear lf
  by_cases h0:fl.length=0
  ·have ev:v1.th=wt.th:=by
    rw[<-hv1,List.eq_nil_of_length_eq_zero h0];rfl
   rw[<-ev]at h
   refine gS (hfv.hp h) ?_
   refine d9 (by omega) (cf ?_)
   exact lf1 h
  ·refine Exists.elim (p:=fun k=>fl.length=k+1) ⟨fl.length - 1,by omega⟩ fun k hk=>?_
   refine Exists.elim (p:=fun x=>fl[k]?=some x) ⟨_,List.getElem?_eq_getElem (by omega)⟩ fun f hf=>?_
   have hfm:=List.mem_of_getElem? hf
   have sf:iY (fl.flatMap fF) (k * 10) (fF f):=cZ (f:=fF) (fun _=>rfl) hf
   have hlast:=Alm.MR (t:=wt.th) (w:=wt) hfm (Md hVF.2.2 hk hf)
   rw[hv1]at hlast
   have f1:=(hF.hi f hfm).tr
   have hth:=hV.th
   have hst:=hV.st
   have hf9:=(hVF.2.1 f hfm).1.2
   rw[hk]at hfv
   refine gS (hfv.hp h) ?_
   refine eB (by omega) (co ?_)
   replace h:=h.dr
   refine di (iX h 0 rfl rfl (QH (hfv.hp h) ?_))
   refine py (by omega) (by omega) (rM h ‹_› (by omega) (by omega) fun zb zo zk zv zc=>?_)
   refine di ?_
   rw[show(((k+1:Nat):Int) - 1).toNat=k by omega]
   refine pT h ‹_› ‹_› (by rfl) ?_
   refine Cu (di (tl h 0 rfl rfl rfl rfl fun w h=>?_))
   dsimp only[List.set]at h
   rw[hlast]at lf1
   exact lf1 h
 ·have hin':i=ws.length:=by omega
  have eA:cA ws fl i=((obs ws fl).map wr).flatMap fW:=by unfold cA;rw[hin',List.take_length]
  have eR:rG ws fl i=dD ws (obs ws fl) 0:=by rw[hin',Q7]
  rw[eA,eR,hin']at h
  have hlen:((obs ws fl).map wr).length=ws.length:=by rw[List.length_map,Alm.qB]
  have hrb:=Sm.rb hVA.b (.inl rfl)
  have hA2:∀ {W:World},Hp [] w0 W [ro gM 15 uo ws.length (((obs ws fl).map wr).flatMap fW)]->Ak W (tx B) uo ((obs ws fl).map wr):=fun {W} h=>
   ⟨⟨cv hrb.n,cv hrb.d⟩,by rw[hlen];exact h.sl (i:=0) rfl,fun r hr=>by
     obtain⟨w,hw,rfl⟩:=List.mem_map.1 hr
     obtain⟨w',hw',rfl⟩:=List.mem_map.1 hw
     exact Cx (Alm.VW.obs1 w'.th (hVA.ok w' hw') fun x hx=>(hVF.2.1 x hx).1.2) (by omega),by rw[hlen];omega⟩
  have cc1:=fun {W:World} (h:Hp [] w0 W [ro gM 15 uo ws.length (((obs ws fl).map wr).flatMap fW)])=>iC (w0:=W) (hA2 h)
  clear hA2
  by_cases hok2:VA B (obs ws fl)
  ·have e:wu (tx B) ((obs ws fl).map wr)=true:=mC ⟨B,_,rfl,rfl,hok2⟩
   rw[e]at cc1
   refine ck (Eng.ld1 h 4 rfl rfl (gS (hv.hp h) ?_))
   refine cD (by omega) (cf (dy h 2 rfl rfl ?_))
   refine cu dz (cc1 (h.pick [1] (by decide) rfl)) ?_
   rintro _ w' ⟨x,rfl⟩
   have h:=h.x x
   clear cc1
   refine ct (cf (dy h 2 rfl rfl ?_))
   refine de h 3 rfl rfl (by exact jv (a:=[_,_]) (b:=[]) (qZ 1 h rfl) rfl rfl) rfl fun w h=>?_
   refine mj h 3 rfl rfl ?_
   dsimp only[List.set]at h
   exact bQ.mk (.inr ⟨hok2,_,_,rfl,h.pick [1,0] (by decide) rfl⟩)
  ·have e:wu (tx B) ((obs ws fl).map wr)=false:=kE fun⟨B',ws',e1,e2,h⟩=>hok2 (by
    obtain rfl:=eZ e1
    obtain rfl:=tj e2
    exact h)
   rw[e]at cc1
   refine ck (Eng.ld1 h 4 rfl rfl (gS (hv.hp h) ?_))
   refine cD (by omega) (cf (dy h 2 rfl rfl ?_))
   refine cu dz (cc1 (h.pick [1] (by decide) rfl)) ?_
   rintro _ w' ⟨x,rfl⟩
   have h:=h.x x
   clear cc1
   refine d7 (co (u7 PC.nil (by rfl) ?_))
   refine de h 3 rfl rfl rfl rfl fun w h=>?_
   refine mj h 3 rfl rfl ?_
   dsimp only[List.set]at h
   exact bQ.mk (.inl ⟨hok2,h.ext,rfl⟩)
end Go.Proofs.YtnkmbjedcjcccaaGreatDoor
