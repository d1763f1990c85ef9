/-
  Contracts and plain lemmas. By an AI agent.
-/
import Derived.Test.YtnkmbjedcjcccaaGreatDoorQRatC
import Derived.Test.YtnkmbjedcjcccaaGreatDoorEng
set_option linter.all false
namespace Go.Proofs.YtnkmbjedcjcccaaGreatDoor
open Tryz
open Go Go.Eng Go.Proofs Go.Num Go.RowKit
set_option maxRecDepth 100000
theorem Mt{op:BinOp}{c:Bool}{xs ys:Array Value}{w:World}:(AV op tR c (.agg xs) (.agg ys)).run prog w=.ok () w:=Hc (by kernel_rfl)
section
variable{w:World}{K:Value->World->Prop}{KP:Value->Prop}{rest:Prop}{g o:Nat}{ty:TypeId}{cs:List Value}{a b a' b':List UInt8}{wi c:Bool}
theorem Rf(h:(a == a' && b == b')=true)(hk:K (.bool true) w):Bn prog .eql tR c (.agg #[bh a,bh b]) (.agg #[bh a',bh b']) w K:=by
 simp only[Bool.and_eq_true]at h
 (repeat (first|simp -dsimp[go_sem,Mt,h.1,h.2]|simp -dsimp (disch:=omega)only[gL,gI]));exact hk
theorem Tn(h:(a == a' && b == b')=false)(hk:K (.bool false) w):Bn prog .eql tR c (.agg #[bh a,bh b]) (.agg #[bh a',bh b']) w K:=by
 cases h1:(a == a') with
 | false=>(repeat (first|simp -dsimp[go_sem,Mt,h1]|simp -dsimp (disch:=omega)only[gL,gI]));exact hk
 | true=>rw[h1]at h;(repeat (first|simp -dsimp[go_sem,Mt,h1,show(b == b')=false from h]|simp -dsimp (disch:=omega)only[gL,gI]));exact hk
theorem FE(h:(a == a' && b == b')=false)(hk:K (.bool true) w):Bn prog .neq tR c (.agg #[bh a,bh b]) (.agg #[bh a',bh b']) w K:=by
 cases h1:(a == a') with
 | false=>(repeat (first|simp -dsimp[go_sem,Mt,h1]|simp -dsimp (disch:=omega)only[gL,gI]));exact hk
 | true=>rw[h1]at h;(repeat (first|simp -dsimp[go_sem,Mt,h1,show(b == b')=false from h]|simp -dsimp (disch:=omega)only[gL,gI]));exact hk
theorem HQ(h:(a == a' && b == b')=true)(hk:K (.bool false) w):Bn prog .neq tR c (.agg #[bh a,bh b]) (.agg #[bh a',bh b']) w K:=by
 simp only[Bool.and_eq_true]at h
 (repeat (first|simp -dsimp[go_sem,Mt,h.1,h.2]|simp -dsimp (disch:=omega)only[gL,gI]));exact hk
theorem vk(h:(a == a' && b == b')=true)(hk:KP (.bool true)):Dv prog wi (bn .eql tR c (.agg #[bh a,bh b]) (.agg #[bh a',bh b'])) w KP:=by
 simp only[Bool.and_eq_true]at h
 cases wi <;> (repeat (first|simp -dsimp[go_sem,Mt,h.1,h.2]|simp -dsimp (disch:=omega)only[gL,gI])) <;> exact hk
theorem rV(h:(a == a' && b == b')=false)(hk:KP (.bool false)):Dv prog wi (bn .eql tR c (.agg #[bh a,bh b]) (.agg #[bh a',bh b'])) w KP:=by
 cases h1:(a == a') with
 | false=>cases wi <;> (repeat (first|simp -dsimp[go_sem,Mt,h1]|simp -dsimp (disch:=omega)only[gL,gI])) <;> exact hk
 | true=>rw[h1]at h;cases wi <;> (repeat (first|simp -dsimp[go_sem,Mt,h1,show(b == b')=false from h]|simp -dsimp (disch:=omega)only[gL,gI])) <;> exact hk
end
theorem J9(a b:List UInt8):(a == a && b == b)=true:=by simp
end Go.Proofs.YtnkmbjedcjcccaaGreatDoor
