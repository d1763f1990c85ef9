/-
  Contracts and plain lemmas. By an AI agent.
-/
import Derived.Test.YtnkmbjedcjcccaaGreatDoorRefZ
import Derived.Test.YtnkmbjedcjcccaaGreatDoorStrY
set_option linter.all false
namespace Go.Proofs.YtnkmbjedcjcccaaGreatDoor
open Tryz
open Go Go.Eng Go.Proofs Go.Num Go.RowKit
set_option maxRecDepth 100000
section
variable{s t:List UInt8}{w:World}(hs:s.length<=1000000)(ht:t.length<=1000000)(h:(cI s && cI t)=false)
include hs ht h
end
theorem PR{x y:Int}{c:Bool}{w:World}{K:Value->World->Prop}(hy:0 < y)(hk:K (.int .i64 (x.tmod y)) w):Bn prog .rem 3 c (.int .i64 x) (.int .i64 y) w K:=by
 (repeat (first|simp -dsimp[go_sem]|simp -dsimp (disch:=omega)only[gL,gI]));exact hk
theorem KS{x:Int}{y:Int}{c:Bool}{w:World}{K:Value->World->Prop}(h0: -9223372036854775808<=x)(h1:x<=9223372036854775807)(hy:1 < y)(hk:K (.int .i64 (x.tdiv y)) w):Bn prog .quo 3 c (.int .i64 x) (.int .i64 y) w K:=by
 have e:=Int.natAbs_tdiv x y
 have e2:x.natAbs.div y.natAbs<=x.natAbs / 2:=by
  show x.natAbs / y.natAbs<=x.natAbs / 2
  exact Nat.div_le_div_left (by omega) (by decide)
 obtain⟨q,hq⟩:∃ q,q=x.tdiv y:=⟨_,rfl⟩
 rw[<-hq]at hk e
 have b0: -9223372036854775808<=q:=by omega
 have b1:q<=9223372036854775807:=by omega
 clear e e2
 (repeat (first|simp -dsimp[go_sem,<-hq]|simp -dsimp (disch:=omega)only[gL,gI]));exact hk
theorem Un_ng{x:Int}{w:World}{K:Value->World->Prop}(h0: -9223372036854775808<= -x)(h1: -x<=9223372036854775807)(hk:K (.int .i64 (-x)) w):Un prog .neg (.int .i64 x) w K:=by
 (repeat (first|simp -dsimp[go_sem]|simp -dsimp (disch:=omega)only[gL,gI]));exact hk
theorem AD{n:Int}{w:World}(h0: -9223372036854775808<=n)(h1:n<=9223372036854775807):Calls prog 132 #[.int .i64 n] w (bQ fun r w'=>bK w w'/\r=bh (Lib.itoa n)):=by
 have hp10:∀ i:Nat,(0:Int) < 10 ^ i:=fun i=>Int.pow_pos (by decide)
 apply yq
 unfold qR
 obtain⟨I,hI⟩:∃ I:Value->Value->World->Prop,I=(fun o i W=>∃(m:Int) (zs:List Int),i=.int .i64 m/\m.natAbs<=n.natAbs/\-9223372036854775808<=m/\m<=9223372036854775807/\gz W w.heap.size 3 o (zs.map iv)/\bK w W/\kn zs/\ci zs+10 ^ zs.length * (m.natAbs:Int)=n.natAbs/\(zs≠[]->(10:Int) ^ (zs.length - 1)<=n.natAbs)):=⟨_,rfl⟩
 obtain⟨μ,hμ⟩:∃ μ:Value->Value->World->Nat,μ=(fun _ i _=>match i with | .int _ i'=>i'.natAbs | _=>0):=⟨_,rfl⟩
 refine uN.mk I μ (by rw[hI];exact⟨n,[],rfl,Nat.le_refl _,h0,h1,gz.nil _ _ _,.refl _,by simp[kn],by simp[ci],by simp⟩) ?_
 intro o i W hh
 rw[hI]at hh
 obtain⟨m,zs,rfl,hmn,m0,m1,ho,hW,hd,hnum,hge⟩:=hh
 have hwsz:=hW.size
 have hzl:zs.length<=20:=by
  refine Nat.le_of_not_lt fun hc=>?_
  have h2:=hge (by intro h;rw[h]at hc;simp at hc)
  have h3:=qx (a:=20) (b:=zs.length - 1) (by omega)
  have h4:(10:Int) ^ 20=100000000000000000000:=by decide
  omega
 by_cases hm:m=0
 ·subst hm
  have hnum':ci zs=n.natAbs:=by simpa using hnum
  have hN:ef zs:=BU hd (by rw[hnum'];exact hge)
  have fin:∀ b:Bool,decide (n < 0)=b->Cl prog 126 #[.bool b,o] W (Pk (bQ fun r w'=>bK w w'/\r=bh (Lib.itoa n))) fun t27 w_1=>Ex t27 0 w_1 fun t28 w_1=>Ex t27 1 w_1 fun t29 w_1=>bQ (fun r w'=>bK w w'/\r=bh (Lib.itoa n)) (.returned t28) w_1:=by
   intro b hb
   refine pU jy (tz (neg:=b) ho.slAt hN (by omega)) fun w2 x2=>?_
   refine bQ.mk ⟨hW.tr x2,?_⟩
   rw[hnum',<-hb,pn]
  ((refine cE ?_ ?_;focus omega);refine cf ?_)
  by_cases hn:n < 0
  ·((refine cy ?_ ?_;focus omega))
   exact fin true (by simp[hn])
  ·((refine cD ?_ ?_;focus omega))
   exact fin false (by simp[hn])
 ·obtain⟨D,hD⟩:∃ D:Nat,D=m.natAbs % 10:=⟨_,rfl⟩
  obtain⟨Q,hQ⟩:∃ Q:Nat,Q=m.natAbs / 10:=⟨_,rfl⟩
  have hDQ:m.natAbs=D+10 * Q:=by omega
  have hDlt:D < 10:=by omega
  obtain⟨q,hq⟩:∃ q,q=m.tdiv 10:=⟨_,rfl⟩
  have hqa:q.natAbs=Q:=by
   rw[hq,hQ,Int.natAbs_tdiv];rfl
  have hq0: -9223372036854775808<=q:=by omega
  have hq1:q<=9223372036854775807:=by omega
  have fin:∀(d:Int),d=D->∀ v' W',gz W' w.heap.size 3 v' (zs.map iv++[iv d])->Below w.heap.size W W'->I v' (.int .i64 q) W'/\μ v' (.int .i64 q) W' < μ o (.int .i64 m) W:=by
   intro d hdd v' W' ho' hb'
   rw[hI,hμ]
   have hpw:(10:Int) ^ (zs.length+1)=10 ^ zs.length * 10:=Int.pow_succ ..
   have e1:(10:Int) ^ zs.length * (m.natAbs:Int)=10 ^ zs.length * d+10 ^ zs.length * 10 * Q:=by
    rw[hDQ,hdd];push_cast;grind
   have e2:(10:Int) ^ zs.length * 1<=10 ^ zs.length * (m.natAbs:Int):=Int.mul_le_mul_of_nonneg_left (by omega) (Int.le_of_lt (hp10 _))
   have e3:=ed hd
   refine⟨⟨q,zs++[d],rfl,by omega,hq0,hq1,by simpa using ho',hW.trans hb',?_,?_,?_⟩,?_⟩
   ·intro x hx'
    rcases List.mem_append.1 hx' with h | h
    ·exact hd x h
    ·simp at h;omega
   ·rw[hqa,ir,show(zs++[d]).length=zs.length+1 from by simp,hpw]
    simp only[ci]
    have e4:(10:Int) ^ zs.length * (d+10 * 0)=10 ^ zs.length * d:=by simp
    rw[e4];omega
   ·intro _
    rw[show(zs++[d]).length - 1=zs.length from by simp]
    omega
   ·show q.natAbs < m.natAbs
    omega
  by_cases hneg:m < 0
  ·have ht:m.tmod 10= -(D:Int):=by
    rw[show m= -(m.natAbs:Int) from by omega,Int.neg_tmod,Int.tmod_eq_emod_of_nonneg (by omega)]
    omega
   ((refine gi ?_ ?_;focus omega);refine co ?_)
   refine PR (by decide) ?_
   rw[ht]
   by_cases hD0:D=0
   ·((refine cD ?_ ?_;focus omega);refine cf ?_)
    refine kH xi (by decide) ho rfl rfl (by simp;omega) hwsz fun v' W' ho' hb' _=>?_
    refine KS m0 m1 (by decide) ?_
    rw[<-hq]
    exact fin _ (by omega) v' W' ho' hb'
   ·((refine cy ?_ ?_;focus omega);refine co ?_)
    refine Un_ng (by omega) (by omega) (kH xi (by decide) ho rfl rfl (by simp;omega) hwsz fun v' W' ho' hb' _=>?_)
    refine KS m0 m1 (by decide) ?_
    rw[<-hq]
    exact fin _ (by omega) v' W' ho' hb'
  ·have ht:m % 10=(D:Int):=by omega
   have hq2:m / 10=q:=by rw[hq,Int.tdiv_eq_ediv_of_nonneg (by omega)]
   ((refine gi ?_ ?_;focus omega);refine co ?_;(refine qJ ?_ ?_ ?_;(focus omega);(focus omega));(refine cD ?_ ?_;focus omega);refine cf ?_)
   rw[ht]
   skip
   refine kH xi (by decide) ho rfl rfl (by simp;omega) hwsz fun v' W' ho' hb' _=>?_
   ((refine lX ?_ ?_ ?_ ?_;(focus omega);(focus omega);(focus omega)))
   rw[hq2]
   exact fin _ rfl v' W' ho' hb'
theorem MS:Lib.itoa (-9223372036854775808)=[45,57,50,50,51,51,55,50,48,51,54,56,53,52,55,55,53,56,48,56]:=MV _ (by decide) (by decide) (by decide)
theorem PS:Lib.itoa 9223372036854775807=[57,50,50,51,51,55,50,48,51,54,56,53,52,55,55,53,56,48,55]:=qC _ (by decide) (by decide)
theorem EM{n:Int}(h0: -9223372036854775808<=n)(h1:n<=9223372036854775807):n.natAbs < cr:=by
 have h:n.natAbs < 10 ^ 200:=Nat.lt_of_lt_of_le (show n.natAbs < 10 ^ 20 by omega) (Nat.pow_le_pow_right (by decide) (by decide))
 unfold cr;exact h
theorem AE(l:List UInt8)(k:Nat):dv (l.take k)<=dv l:=by
 have h:=na (l.take k) (l.drop k)
 rw[List.take_append_drop]at h
 have hp:1<=10 ^ (l.drop k).length:=Nat.pow_pos (by decide)
 have:=Nat.mul_le_mul_left (dv (l.take k)) hp
 omega
theorem Hq{l:List UInt8}{k:Nat}(h:k < l.length):dv (l.take (k+1))=dv (l.take k) * 10+(l[k].toNat - 48):=by
 rw[List.take_add_one,List.getElem?_eq_getElem h]
 exact oC _ _
theorem KT{x:Int}{c:Bool}{w:World}{K:Value->World->Prop}(h0: -9223372036854775808<=10 * x)(h1:10 * x<=9223372036854775807)(hk:K (.int .i64 (10 * x)) w):Bn prog .mul 3 c (.int .i64 10) (.int .i64 x) w K:=BT h0 h1 hk
theorem gK{x y c:Int}{w:World}(hx:x.natAbs < cr)(hy:y.natAbs < cr)(e:dK x y=c):
 Calls prog 85 #[bh (Lib.itoa x),bh (Lib.itoa y)] w (bQ fun r w'=>bK w w'/\r=.int .i64 c):=bQ.lit (Ff hx hy) (by rw[e])
end Go.Proofs.YtnkmbjedcjcccaaGreatDoor
