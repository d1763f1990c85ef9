/-
  Proved: AlarmMatchesReference returns true for every input, and its arguments read as before. Conditions: the row's own (the listed library variables as the program's text lays them; the card ties them). By an AI agent.
-/
import Derived.Test.YtnkmbjedcjcccaaGreatDoorTie
import Derived.Test.YtnkmbjedcjcccaaGreatDoorCards
import Derived.Test.YtnkmbjedcjcccaaGreatDoorAmT
import Derived.Test.YtnkmbjedcjcccaaGreatDoorCardX
import Derived.ProofKit
import Derived.ChangeMaps5
import Derived.OpenShut
import Derived.LaidMore
import Derived.Lay
import Derived.SevenTiedAt
import Derived.Stop.Joined
set_option linter.all false
namespace Go.Proofs.YtnkmbjedcjcccaaGreatDoor
open Go.Proofs.Tryz
open Go.ChangeShapes Go.WideShapes Go.ChangeAt Go.RowKit Go.ChangeMaps
set_option maxRecDepth 100000 in
theorem mf(os:Os)(started:os.Started)(H:Type)(enc:TypeId×Value->H):
 ReturnsInHanded {} Tryz.checked os 3 .any (fun w args=>(Rows.alarmMatchesReferenceSpec.pre enc prog Tryz.f3 Rows.alarmMatchesReferenceRow.domain false w args/\laidMetH prog Rows.alarmMatchesReferenceRow.laid w)/\sizedMet enc prog Tryz.f3 (OpenSpec.ofChange Rows.alarmMatchesReferenceSpec) false w args)
  (Rows.alarmMatchesReferenceSpec.post enc prog Tryz.f3 false true false false):=by
 refine AN (C:=Tryz.checked) (X:=fun w _=>laidMetH prog Rows.alarmMatchesReferenceRow.laid w) (fun _ _ _ hh h=>h.of_heap hh) own started (by kernel_rfl) func3
  (ChangeSpec.witness_shaped (enc:=enc) (C:=Tryz.checked) (os:=os) (X:=fun w _=>laidMetH prog Rows.alarmMatchesReferenceRow.laid w) false (World.laidAll prog os Rows.alarmMatchesReferenceRow.laid) #[.int .i64 0,.slice none 0 0,.slice none 0 0,.agg #[.string ⟨#[]⟩,.string ⟨#[]⟩,.slice none 0 0],.agg #[.int .i64 0,.int .i64 0,.int .i64 0,.string ⟨#[]⟩,.string ⟨#[]⟩,.string ⟨#[]⟩,.string ⟨#[]⟩,.string ⟨#[]⟩,.string ⟨#[]⟩,.int .i64 0,.int .i64 0,.int .i64 0,.string ⟨#[]⟩,.string ⟨#[]⟩,.bool false],.slice none 0 0,.int .i64 0] 8 (World.laidAll_os _ _ _)
   (World.shaped_of_ZipB (by kernel_rfl) (by kernel_rfl)) (by kernel_rfl) (by kernel_rfl) (by kernel_rfl)
   (by rw[MakeChecks.laidMetH_plain _ _ _ (by kernel_rfl)];exact laidMet_laidAll _ (by kernel_rfl) (by kernel_rfl))) ?_
 intro W base args ds gs before hsh hval0 hW hL
 have hval:∀(j:Nat) t v,Tryz.f3.params[j]?=some t->args[j]?=some v->Value.okWide prog W .any base t v:=hval0
 have hW':=hW
 obtain⟨p,q,hA0,hV,rfl,_,_⟩:=hW
 have hA:DataW.TrodAll enc prog W 0 (fun _=>true) true Tryz.f3.params.toList args.toList ds p:=hA0
 rw[Tryz.params3]at hA hval
 obtain⟨v0,vs0,d0,ds0,p0,q0,hargs,rfl,rfl,h0,r0⟩:=trodAll_cons hA
 obtain⟨v1,vs1,d1,ds1,p1,q1,rfl,rfl,rfl,h1,r1⟩:=trodAll_cons r0
 obtain⟨v2,vs2,d2,ds2,p2,q2,rfl,rfl,rfl,h2,r2⟩:=trodAll_cons r1
 obtain⟨v3,vs3,d3,ds3,p3,q3,rfl,rfl,rfl,h3,r3⟩:=trodAll_cons r2
 obtain⟨v4,vs4,d4,ds4,p4,q4,rfl,rfl,rfl,h4,r4⟩:=trodAll_cons r3
 obtain⟨v5,vs5,d5,ds5,p5,q5,rfl,rfl,rfl,h5,r5⟩:=trodAll_cons r4
 obtain⟨v6,vs6,d6,ds6,p6,q6,rfl,rfl,rfl,h6,r6⟩:=trodAll_cons r5
 obtain⟨rfl,rfl,rfl⟩:=trodAll_nil r6
 obtain rfl:args=#[v0,v1,v2,v3,v4,v5,v6]:=by cases args;simp_all
 obtain⟨rfl,rfl⟩:=trodVars_none hV
 have hk0:=h0
 obtain⟨a0,rfl,rfl,rfl,w0⟩:=open_int underlying3 (hval 0 3 v0 rfl rfl) h0
 have z0: -9223372036854775808<=a0/\a0<=9223372036854775807:=eJ w0
 have hk1:=h1
 obtain⟨l1,s1,k1,m1⟩:=IT (hval 1 22 v1 rfl rfl) h1
 have hk2:=h2
 obtain⟨l2,s2,k2,m2⟩:=IU (hval 2 23 v2 rfl rfl) h2
 have hk3:=h3
 obtain⟨b3,a3x2,a3x3,a3x4,l3,rfl,z3,s3,k3,m3⟩:=IX (hval 3 28 v3 rfl rfl) h3
 have hk4:=h4
 obtain⟨u4,rfl,z4⟩:=IW (hval 4 30 v4 rfl rfl) h4
 have hk5:=h5
 obtain⟨l5,s5,k5,m5⟩:=IV (hval 5 31 v5 rfl rfl) h5
 have hk6:=h6
 obtain⟨a6,rfl,rfl,rfl,w6⟩:=open_int underlying3 (hval 6 3 v6 rfl rfl) h6
 have z6: -9223372036854775808<=a6/\a6<=9223372036854775807:=eJ w6
 clear hA0 hval0
 simp only[List.append_nil]at hW'
 have en:=Qh hsh hL
 have walk:Calls prog 3 #[.int .i64 a0,v1,v2,vA b3 (.slice a3x2 a3x3 a3x4),vW u4,v5,.int .i64 a6] W (Eng.bQ fun r w'=>Eng.bK W w'/\r=.bool true):=rR en z0 s1 s2 k1 k2 (Nat.le_trans m1 (by decide)) (Nat.le_trans m2 (by decide)) z3 s3 k3 (Nat.le_trans m3 (by decide)) z4 s5 k5 (Nat.le_trans m5 (by decide)) z6
 refine walk.mono fun e W' ⟨r,he,bel,hr⟩=>?_
 subst he;subst hr
 exact⟨_,rfl,_,_,_,[],_,[],hW',(trodAll_cons_mk (shut_bool underlying4 _) trodAll_mk0),(trodAll_cons_mk (RowKit.Below.trod ng (by kernel_rfl) (of_decide_eq_true (by kernel_rfl)) hk0 bel (fun x hx=>hW'.lt x (by first | (simp[hx];done) | exact absurd hx (by simp)))) (trodAll_cons_mk (RowKit.Below.trod ng (by kernel_rfl) (of_decide_eq_true (by kernel_rfl)) hk1 bel (fun x hx=>hW'.lt x (by first | (simp[hx];done) | exact absurd hx (by simp)))) (trodAll_cons_mk (RowKit.Below.trod ng (by kernel_rfl) (of_decide_eq_true (by kernel_rfl)) hk2 bel (fun x hx=>hW'.lt x (by first | (simp[hx];done) | exact absurd hx (by simp)))) (trodAll_cons_mk (RowKit.Below.trod ng (by kernel_rfl) (of_decide_eq_true (by kernel_rfl)) hk3 bel (fun x hx=>hW'.lt x (by first | (simp[hx];done) | exact absurd hx (by simp)))) (trodAll_cons_mk (RowKit.Below.trod ng (by kernel_rfl) (of_decide_eq_true (by kernel_rfl)) hk4 bel (fun x hx=>hW'.lt x (by first | (simp[hx];done) | exact absurd hx (by simp)))) (trodAll_cons_mk (RowKit.Below.trod ng (by kernel_rfl) (of_decide_eq_true (by kernel_rfl)) hk5 bel (fun x hx=>hW'.lt x (by first | (simp[hx];done) | exact absurd hx (by simp)))) (trodAll_cons_mk (RowKit.Below.trod ng (by kernel_rfl) (of_decide_eq_true (by kernel_rfl)) hk6 bel (fun x hx=>hW'.lt x (by first | (simp[hx];done) | exact absurd hx (by simp)))) trodAll_mk0))))))),rfl,bel.frame _,fun h=>by cases h⟩
theorem nj:Rows.AlarmMatchesReferenceSaid:=
 OpenClaim.holds_of_wide 3 Tryz.f3 rfl rfl rfl rfl rfl rfl rfl ⟨rfl,rfl,rfl,rfl,rfl⟩ rfl rfl rfl rfl rfl (by kernel_rfl) func3 (by kernel_rfl)
  (of_decide_eq_true (by kernel_rfl)) (by unfold Func.isWrapper;first | (rw[if_pos (by decide+kernel)];kernel_rfl) | (rw[if_neg (by decide+kernel)];exact⟨rfl,rfl⟩))
  (fun os started H enc _=>mf os started H enc)
theorem card_alarmMatchesReference:Rows.AlarmMatchesReferenceCardSaid:=
 Claim7.holds_tied_plain_at .later [] _ _ _ _ nj (fun _ h=>by cases h) (by kernel_rfl) (fun _ h=>by cases h) alarmMatchesReference_row_tie rfl ⟨rfl,rfl⟩ (by kernel_rfl) rfl
  (fun f fn hf hfn=>by
   obtain rfl:f=3:=Option.some.inj ((show prog.funcNamed "latecomer/latecomerlaw28.AlarmMatchesReference"=some 3 by kernel_rfl).symm.trans hf) |>.symm
   obtain rfl:fn=Tryz.f3:=(Option.some.inj (func3.symm.trans hfn)).symm
   exact⟨by kernel_rfl,fun j t ht=>by
    rw[Tryz.params3]at ht
    have hm:t∈[3,22,23,28,30,31,3]:=by simpa using Array.mem_of_getElem? ht
    have hall:([3,22,23,28,30,31,3].all fun u=>!prog.wantsStandIn u)=true:=by kernel_rfl
    exact(show prog.wantsStandIn t=false by simpa using List.all_eq_true.1 hall t hm)⟩)
  (by kernel_rfl)
end Go.Proofs.YtnkmbjedcjcccaaGreatDoor
