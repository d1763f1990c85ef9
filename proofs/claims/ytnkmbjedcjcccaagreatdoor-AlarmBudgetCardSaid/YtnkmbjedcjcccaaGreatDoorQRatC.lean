/-
  Contracts and plain lemmas. By an AI agent.
-/
import Derived.Test.YtnkmbjedcjcccaaGreatDoorQRatB
set_option linter.unusedSimpArgs false
set_option linter.unusedVariables false
set_option linter.unusedSectionVars false
namespace Go.Proofs.YtnkmbjedcjcccaaGreatDoor
open Go Go.Eng Go.Proofs Go.Num Go.RowKit
set_option maxRecDepth 100000
theorem k_rSub0 {x : Int} {w : World} (hx : x.natAbs < MaxI) : Calls Tryz.prog 130 #[str [48], str (Lib.itoa x)] w (Ret fun r w' => Ext w w' ∧ r = .tuple #[str (Lib.itoa (-x)), .int .i64 0]) := by
 have := c_rSub (w := w) m0 hx
 rw [itoa0, Int.zero_sub, resT (by omega)] at this
 exact this
theorem endR {w0 w : World} {g : Nat} {a b a' b' : List UInt8} {e : Int} {t : R3} (b4 : Blk w g tR [str a', str b']) (xx : Ext w0 w) (hg : w0.heap.size ≤ g) (h : t = (a, b, e)) :
 Sto Tryz.prog tR (pt g) (.agg #[str a, str b]) w fun w => Rc Tryz.prog tR (pt g) w fun r0 => Ret (fun r w' => Ext w0 w' ∧ r = rv t) (.returned (.tuple #[r0, .int .i64 e])) w := by
 subst h
 refine stoRc b4 fun w2 o2 => ?_
 exact Ret.mk ⟨o2.ext xx hg, rfl⟩
theorem endBad {w0 w : World} {g : Nat} {a' b' : List UInt8} (b4 : Blk w g tR [str a', str b']) (xx : Ext w0 w) (hg : w0.heap.size ≤ g) :
 Bd Tryz.prog tR [] w fun t w => Sto Tryz.prog tR (pt g) t w fun w => Rc Tryz.prog tR (pt g) w fun r0 => Ret (fun r w' => Ext w0 w' ∧ r = rv rBad) (.returned (.tuple #[r0, .int .i64 40])) w :=
 bdR0 (endR b4 xx hg rfl)
section
variable {n d m c : List UInt8} {w : World} (hn : n.length ≤ 1000000) (hd : d.length ≤ 1000000) (hm : m.length ≤ 1000000) (hc : c.length ≤ 1000000)
include hn hd
theorem fMake_ok {p q : Int} (hp : p.natAbs < MaxI) (hq : q.natAbs < MaxI) : Calls Tryz.prog 131 #[str (Lib.itoa p), str (Lib.itoa q)] w (Ret fun r w' => Ext w w' ∧ r = rv (makeQ p q)) := by
 have ln := itoa_ok hp
 have ld := itoa_ok hq
 have vp := valid_ok hp
 have vq := valid_ok hq
 by_cases hq0 : q = 0
 ·have ez := is0 hq0
  have e : makeQ p q = rBad := by unfold makeQ; rw [if_pos hq0]
  rw [e]
  apply e_ref04_Make
  unfold s_ref04_Make
  refine alR fun g w1 x1 hg _ b1 => ?_
  refine Cl1 n_ref03_Valid (rsanV ln vp) fun w2 x2 => ?_
  refine Cl1 n_ref03_Valid (rsanV ld vq) fun w3 x3 => ?_
  (refine Un_T ?_; refine Gd_F ?_; refine Gd_F ?_; refine Un_T ?_; refine Pick_F ?_; refine Gd_F ?_; refine Gd_F ?_; (refine Bn_eqS1 ?_ ?_; focus assumption); refine Pick_F ?_; refine If_T ?_)
  exact endBad ((b1.ext x2).ext x3) ((x1.tr x2).tr x3) hg
 ·have ez := not0 hq0
  have hG : (Int.gcd (sgnTo q p) (sgnTo q q) : Int) = (Int.gcd p q : Int) := by rw [sgnTo_gcd]
  have hg0 := gcd_pos' (n := p) hq0
  have hgm := gcd_max hp hq
  have hsx : (sgnTo q p).natAbs < MaxI := by rw [sgnTo_abs]; exact hp
  have hsy : (sgnTo q q).natAbs < MaxI := by rw [sgnTo_abs]; exact hq
  have e : makeQ p q = rLo p q := by unfold makeQ; rw [if_neg hq0, rLo_q hq0]
  rw [e]
  apply e_ref04_Make
  unfold s_ref04_Make
  refine alR fun g w1 x1 hg _ b1 => ?_
  refine Cl1 n_ref03_Valid (rsanV ln vp) fun w2 x2 => ?_
  refine Cl1 n_ref03_Valid (rsanV ld vq) fun w3 x3 => ?_
  (refine Un_T ?_; refine Gd_F ?_; refine Gd_F ?_; refine Un_T ?_; refine Pick_F ?_; refine Gd_F ?_; refine Gd_F ?_; (refine Bn_eqSF ?_ ?_; focus assumption); refine Pick_F ?_; refine If_F ?_)
  refine Jn2.mk ?_
  intro K hK
  have back : ∀ W, Ext w3 W → K (str (Lib.itoa (sgnTo q p))) (str (Lib.itoa (sgnTo q q))) W := by
   intro W xW
   refine hK _ _ W ?_
   have c1 := k_rGcdR (w := W) hsx hsy
   rw [hG] at c1
   refine Cl2 n_ref03_Gcd c1 fun W1 y1 => ?_
   refine Cl3 n_ref03_Div (c_rDiv hsx hgm (by omega)) fun W2 y2 => ?_
   refine Cl3 n_ref03_Div (c_rDiv hsy hgm (by omega)) fun W3 y3 => ?_
   ((refine Bn_neF ?_ ?_; focus omega); refine Gd_F ?_; refine Gd_F ?_; (refine Bn_neF ?_ ?_; focus omega); refine Pick_F ?_; refine If_F ?_)
   refine bdR ?_
   exact endR ((((((b1.ext x2).ext x3).ext xW).ext y1).ext y2).ext y3) (((((((x1.tr x2).tr x3).tr xW).tr y1).tr y2)).tr y3) hg rfl
  by_cases hneg : q < 0
  ·have e1 : sgnTo q p = -p := by unfold sgnTo; rw [if_pos hneg]
   have e2 : sgnTo q q = -q := by unfold sgnTo; rw [if_pos hneg]
   rw [e1, e2] at back
   refine Cl1 n_ref03_Compare (k_rCmp0 hq (cmpI_lt hneg)) fun w4 x4 => ?_
   ((refine Bn_ltT ?_ ?_; focus omega); refine If_T ?_)
   refine Cl2 n_ref03_Sub (k_rSub0 hp) fun w5 x5 => ?_
   refine Cl2 n_ref03_Sub (k_rSub0 hq) fun w6 x6 => ?_
   exact back w6 ((x4.tr x5).tr x6)
  ·have e1 : sgnTo q p = p := by unfold sgnTo; rw [if_neg hneg]
   have e2 : sgnTo q q = q := by unfold sgnTo; rw [if_neg hneg]
   rw [e1, e2] at back
   refine Cl1 n_ref03_Compare (k_rCmp0 hq rfl) fun w4 x4 => ?_
   have := cmpI_ge (x := q) (y := 0) (by omega)
   ((refine Bn_ltF ?_ ?_; focus omega); refine If_F ?_)
   exact back w4 x4
omit hn hd in
theorem c_fOf {x y : Int} (hx0 : -9223372036854775808 ≤ x) (hx1 : x ≤ 9223372036854775807) (hy0 : -9223372036854775808 ≤ y) (hy1 : y ≤ 9223372036854775807) :
 Calls Tryz.prog 89 #[.int .i64 x, .int .i64 y] w (Ret fun r w' => Ext w w' ∧ r = rv (makeQ x y)) := by
 have mx := i64M hx0 hx1
 have my := i64M hy0 hy1
 apply e_ref04_Of
 unfold s_ref04_Of
 refine alR fun g4 w1 x1 hg4 hg4' b4 => ?_
 refine Cl1 n_ref03_FromInt (c_rFromInt hx0 hx1) fun w2 x2 => ?_
 refine Cl1 n_ref03_FromInt (c_rFromInt hy0 hy1) fun w3 x3 => ?_
 refine Cl2 n_ref04_Make (fMake_ok (itoa_ok mx) (itoa_ok my) mx my) fun w4 x4 => ?_
 exact endR (((b4.ext x2).ext x3).ext x4) (((x1.tr x2).tr x3).tr x4) hg4 rfl
end
section
variable {n d m c : List UInt8} {w : World} (hn : n.length ≤ 1000000) (hd : d.length ≤ 1000000) (hm : m.length ≤ 1000000) (hc : c.length ≤ 1000000)
include hn hd hm hc
end
section
variable {n d m c : List UInt8} {w : World} (hn : n.length ≤ 1000000) (hd : d.length ≤ 1000000) (hm : m.length ≤ 1000000) (hc : c.length ≤ 1000000)
include hn hd hm hc
end
section
variable {x y : Rat} {w : World} (hx : RB x) (hy : RB y)
include hx hy
end
section
variable {n d m c : List UInt8} {w : World} (hn : n.length ≤ 1000000) (hd : d.length ≤ 1000000) (hm : m.length ≤ 1000000) (hc : c.length ≤ 1000000)
include hn hd hm hc
end
end Go.Proofs.YtnkmbjedcjcccaaGreatDoor
