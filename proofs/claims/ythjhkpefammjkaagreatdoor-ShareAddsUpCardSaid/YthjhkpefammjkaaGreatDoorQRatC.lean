/-
  Contracts and plain lemmas. By an AI agent.
-/
import Derived.Test.YthjhkpefammjkaaGreatDoorQRatB
set_option linter.unusedSimpArgs false
set_option linter.unusedVariables false
set_option linter.unusedSectionVars false
namespace Go.Proofs.YthjhkpefammjkaaGreatDoor
open Go Go.Eng Go.Proofs Go.Num Go.RowKit
set_option maxRecDepth 100000
theorem k_rSub0 {x : Int} {w : World} (hx : x.natAbs < MaxI) : Calls Tryz.prog 133 #[str [48], str (Lib.itoa x)] w (Ret fun r w' => Ext w w' ∧ r = .tuple #[str (Lib.itoa (-x)), .int .i64 0]) := by
 have := c_rSub (w := w) m0 hx
 rw [itoa0, Int.zero_sub, resT (by omega)] at this
 exact this
theorem endR {w0 w : World} {g : Nat} {a b a' b' : List UInt8} {e : Int} {t : R3} (b4 : Blk w g tR [str a', str b']) (xx : Ext w0 w) (hg : w0.heap.size ≤ g) (h : t = (a, b, e)) :
 Sto Tryz.prog tR (pt g) (.agg #[str a, str b]) w fun w => Rc Tryz.prog tR (pt g) w fun r0 => Ret (fun r w' => Ext w0 w' ∧ r = rv t) (.returned (.tuple #[r0, .int .i64 e])) w := by
 subst h
 refine stoRc b4 fun w2 o2 => ?_
 exact Ret.mk ⟨o2.ext xx hg, rfl⟩
theorem endBad {w0 w : World} {g : Nat} {a' b' : List UInt8} (b4 : Blk w g tR [str a', str b']) (xx : Ext w0 w) (hg : w0.heap.size ≤ g) :
 Bd Tryz.prog tR [] w fun t w => Sto Tryz.prog tR (pt g) t w fun w => Rc Tryz.prog tR (pt g) w fun r0 => Ret (fun r w' => Ext w0 w' ∧ r = rv rBad) (.returned (.tuple #[r0, .int .i64 40])) w :=
 bdR0 (endR b4 xx hg rfl)
section
variable {n d m c : List UInt8} {w : World} (hn : n.length ≤ 1000000) (hd : d.length ≤ 1000000) (hm : m.length ≤ 1000000) (hc : c.length ≤ 1000000)
include hn hd
theorem fMake_ok {p q : Int} (hp : p.natAbs < MaxI) (hq : q.natAbs < MaxI) : Calls Tryz.prog 103 #[str (Lib.itoa p), str (Lib.itoa q)] w (Ret fun r w' => Ext w w' ∧ r = rv (makeQ p q)) := by
 have ln := itoa_ok hp
 have ld := itoa_ok hq
 have vp := valid_ok hp
 have vq := valid_ok hq
 by_cases hq0 : q = 0
 ·have ez := is0 hq0
  have e : makeQ p q = rBad := by unfold makeQ; rw [if_pos hq0]
  rw [e]
  apply e_ref04_Make
  unfold s_ref04_Make
  refine alR fun g w1 x1 hg _ b1 => ?_
  refine Cl1 n_ref03_Valid (rsanV ln vp) fun w2 x2 => ?_
  refine Cl1 n_ref03_Valid (rsanV ld vq) fun w3 x3 => ?_
  (refine Un_T ?_; refine Gd_F ?_; refine Gd_F ?_; refine Un_T ?_; refine Pick_F ?_; refine Gd_F ?_; refine Gd_F ?_; (refine Bn_eqS1 ?_ ?_; focus assumption); refine Pick_F ?_; refine If_T ?_)
  exact endBad ((b1.ext x2).ext x3) ((x1.tr x2).tr x3) hg
 ·have ez := not0 hq0
  have hG : (Int.gcd (sgnTo q p) (sgnTo q q) : Int) = (Int.gcd p q : Int) := by rw [sgnTo_gcd]
  have hg0 := gcd_pos' (n := p) hq0
  have hgm := gcd_max hp hq
  have hsx : (sgnTo q p).natAbs < MaxI := by rw [sgnTo_abs]; exact hp
  have hsy : (sgnTo q q).natAbs < MaxI := by rw [sgnTo_abs]; exact hq
  have e : makeQ p q = rLo p q := by unfold makeQ; rw [if_neg hq0, rLo_q hq0]
  rw [e]
  apply e_ref04_Make
  unfold s_ref04_Make
  refine alR fun g w1 x1 hg _ b1 => ?_
  refine Cl1 n_ref03_Valid (rsanV ln vp) fun w2 x2 => ?_
  refine Cl1 n_ref03_Valid (rsanV ld vq) fun w3 x3 => ?_
  (refine Un_T ?_; refine Gd_F ?_; refine Gd_F ?_; refine Un_T ?_; refine Pick_F ?_; refine Gd_F ?_; refine Gd_F ?_; (refine Bn_eqSF ?_ ?_; focus assumption); refine Pick_F ?_; refine If_F ?_)
  refine Jn2.mk ?_
  intro K hK
  have back : ∀ W, Ext w3 W → K (str (Lib.itoa (sgnTo q p))) (str (Lib.itoa (sgnTo q q))) W := by
   intro W xW
   refine hK _ _ W ?_
   have c1 := k_rGcdR (w := W) hsx hsy
   rw [hG] at c1
   refine Cl2 n_ref03_Gcd c1 fun W1 y1 => ?_
   refine Cl3 n_ref03_Div (c_rDiv hsx hgm (by omega)) fun W2 y2 => ?_
   refine Cl3 n_ref03_Div (c_rDiv hsy hgm (by omega)) fun W3 y3 => ?_
   ((refine Bn_neF ?_ ?_; focus omega); refine Gd_F ?_; refine Gd_F ?_; (refine Bn_neF ?_ ?_; focus omega); refine Pick_F ?_; refine If_F ?_)
   refine bdR ?_
   exact endR ((((((b1.ext x2).ext x3).ext xW).ext y1).ext y2).ext y3) (((((((x1.tr x2).tr x3).tr xW).tr y1).tr y2)).tr y3) hg rfl
  by_cases hneg : q < 0
  ·have e1 : sgnTo q p = -p := by unfold sgnTo; rw [if_pos hneg]
   have e2 : sgnTo q q = -q := by unfold sgnTo; rw [if_pos hneg]
   rw [e1, e2] at back
   refine Cl1 n_ref03_Compare (k_rCmp0 hq (cmpI_lt hneg)) fun w4 x4 => ?_
   ((refine Bn_ltT ?_ ?_; focus omega); refine If_T ?_)
   refine Cl2 n_ref03_Sub (k_rSub0 hp) fun w5 x5 => ?_
   refine Cl2 n_ref03_Sub (k_rSub0 hq) fun w6 x6 => ?_
   exact back w6 ((x4.tr x5).tr x6)
  ·have e1 : sgnTo q p = p := by unfold sgnTo; rw [if_neg hneg]
   have e2 : sgnTo q q = q := by unfold sgnTo; rw [if_neg hneg]
   rw [e1, e2] at back
   refine Cl1 n_ref03_Compare (k_rCmp0 hq rfl) fun w4 x4 => ?_
   have := cmpI_ge (x := q) (y := 0) (by omega)
   ((refine Bn_ltF ?_ ?_; focus omega); refine If_F ?_)
   exact back w4 x4
omit hn hd in
theorem c_fOf {x y : Int} (hx0 : -9223372036854775808 ≤ x) (hx1 : x ≤ 9223372036854775807) (hy0 : -9223372036854775808 ≤ y) (hy1 : y ≤ 9223372036854775807) :
 Calls Tryz.prog 72 #[.int .i64 x, .int .i64 y] w (Ret fun r w' => Ext w w' ∧ r = rv (makeQ x y)) := by
 have mx := i64M hx0 hx1
 have my := i64M hy0 hy1
 apply e_ref04_Of
 unfold s_ref04_Of
 refine alR fun g4 w1 x1 hg4 hg4' b4 => ?_
 refine Cl1 n_ref03_FromInt (c_rFromInt hx0 hx1) fun w2 x2 => ?_
 refine Cl1 n_ref03_FromInt (c_rFromInt hy0 hy1) fun w3 x3 => ?_
 refine Cl2 n_ref04_Make (fMake_ok (itoa_ok mx) (itoa_ok my) mx my) fun w4 x4 => ?_
 exact endR (((b4.ext x2).ext x3).ext x4) (((x1.tr x2).tr x3).tr x4) hg4 rfl
end
theorem Cl4 {P : Program} {f : FuncId} {args : Array Value} {w : World} {pan : List PanicEntry → World → Prop} {a b c d : Value} {B : Value → Value → Value → Value → World → Prop} (hn : Enters P f) (h : Calls P f args w (Ret fun r w' => Ext w w' ∧ r = .tuple #[a, b, c, d])) (hk : ∀ w', Ext w w' → B a b c d w') :
 Cl P f args w pan (fun t w => Ex t 0 w fun t1 w => Ex t 1 w fun t2 w => Ex t 2 w fun t3 w => Ex t 3 w fun t4 w => B t1 t2 t3 t4 w) :=
 Cl1 hn h hk
theorem resE_two (z : Int) : resE z = 0 ∨ resE z = 30 := by unfold resE; split; exact .inl rfl; exact .inr rfl
theorem resE_iff {z : Int} : resE z = 0 ↔ z.natAbs < MaxI := by unfold resE; split <;> simp [*]
theorem t_rMul {x y : Int} {w : World} (hx : x.natAbs < MaxI) (hy : y.natAbs < MaxI) : Calls Tryz.prog 106 #[str (Lib.itoa x), str (Lib.itoa y)] w (Ret fun r w' => Ext w w' ∧ r = .tuple #[str (resA (x * y)), .int .i64 (resE (x * y))]) := Ret.lit (c_rMul hx hy) (resI_AE _)
theorem t_rAdd {x y : Int} {w : World} (hx : x.natAbs < MaxI) (hy : y.natAbs < MaxI) : Calls Tryz.prog 108 #[str (Lib.itoa x), str (Lib.itoa y)] w (Ret fun r w' => Ext w w' ∧ r = .tuple #[str (resA (x + y)), .int .i64 (resE (x + y))]) := Ret.lit (c_rAdd hx hy) (resI_AE _)
section
variable {n d m c : List UInt8} {w : World} (hn : n.length ≤ 1000000) (hd : d.length ≤ 1000000) (hm : m.length ≤ 1000000) (hc : c.length ≤ 1000000)
def crossOk (x y : Rat) : Bool := decide ((x.num * (y.den : Int)).natAbs < MaxI ∧ (y.num * (x.den : Int)).natAbs < MaxI ∧ ((x.den : Int) * (y.den : Int)).natAbs < MaxI)
theorem c_cross {x y : Rat} (hx : RB x) (hy : RB y) : Calls Tryz.prog 107 #[fq x, fq y] w (Ret fun r w' => Ext w w' ∧ r = .tuple #[str (resA (x.num * (y.den : Int))), str (resA (y.num * (x.den : Int))), str (resA ((x.den : Int) * (y.den : Int))), .bool (crossOk x y)]) := by
 obtain ⟨E1, h1⟩ : ∃ E, resE (x.num * (y.den : Int)) = E := ⟨_, rfl⟩
 obtain ⟨E2, h2⟩ : ∃ E, resE (y.num * (x.den : Int)) = E := ⟨_, rfl⟩
 obtain ⟨E3, h3⟩ : ∃ E, resE ((x.den : Int) * (y.den : Int)) = E := ⟨_, rfl⟩
 have z1 := resE_two (x.num * (y.den : Int))
 have z2 := resE_two (y.num * (x.den : Int))
 have z3 := resE_two ((x.den : Int) * (y.den : Int))
 have i1 := resE_iff (z := x.num * (y.den : Int))
 have i2 := resE_iff (z := y.num * (x.den : Int))
 have i3 := resE_iff (z := (x.den : Int) * (y.den : Int))
 rw [h1] at z1 i1
 rw [h2] at z2 i2
 rw [h3] at z3 i3
 apply e_ref04_cross
 unfold s_ref04_cross
 refine bxR fun g2 w1 x1 hg2 _ b2 => ?_
 refine bxR fun g3 w2 x2 hg3 _ b3 => ?_
 replace b2 := b2.ext x2
 refine ldR b2 ?_
 have v1 := c_fValid (w := w2) (itoa_ok hx.n) (itoa_ok hx.d)
 rw [okB_t (okR_q.2 hx)] at v1
 refine Cl1 n_ref04_Valid v1 fun w3 x3 => ?_
 replace b2 := b2.ext x3
 replace b3 := b3.ext x3
 refine ldR b3 ?_
 have v2 := c_fValid (w := w3) (itoa_ok hy.n) (itoa_ok hy.d)
 rw [okB_t (okR_q.2 hy)] at v2
 refine Cl1 n_ref04_Valid v2 fun w4 x4 => ?_
 replace b2 := b2.ext x4
 replace b3 := b3.ext x4
 (refine Un_T ?_; refine Gd_F ?_; refine Gd_F ?_; refine Un_T ?_; refine Pick_F ?_; refine If_F ?_)
 refine fl0 b2 (fl1 b3 ?_)
 have c1 := t_rMul (w := w4) hx.n hy.d
 rw [h1] at c1
 refine Cl2 n_ref03_Mul c1 fun w5 x5 => ?_
 replace b2 := b2.ext x5
 replace b3 := b3.ext x5
 refine fl0 b3 (fl1 b2 ?_)
 have c2 := t_rMul (w := w5) hy.n hx.d
 rw [h2] at c2
 refine Cl2 n_ref03_Mul c2 fun w6 x6 => ?_
 replace b2 := b2.ext x6
 replace b3 := b3.ext x6
 refine fl1 b2 (fl1 b3 ?_)
 have c3 := t_rMul (w := w6) hx.d hy.d
 rw [h3] at c3
 refine Cl2 n_ref03_Mul c3 fun w7 x7 => ?_
 have xx := (((((x1.tr x2).tr x3).tr x4).tr x5).tr x6).tr x7
 clear b2 b3 c1 c2 c3 v1 v2 hg2 hg3 x1 x2 x3 x4 x5 x6 x7
 have fin : ∀ b : Bool, (E1 = 0 ∧ E2 = 0 ∧ E3 = 0 ↔ b = true) → crossOk x y = b := by
  intro b hb
  unfold crossOk
  cases b with
  | true =>
   obtain ⟨a1, a2, a3⟩ := hb.2 rfl
   exact decide_eq_true ⟨i1.1 a1, i2.1 a2, i3.1 a3⟩
  | false => exact decide_eq_false (fun h => by have := hb.1 ⟨i1.2 h.1, i2.2 h.2.1, i3.2 h.2.2⟩; cases this)
 clear i1 i2 i3 h1 h2 h3
 by_cases k1 : E1 = 0
 ·by_cases k2 : E2 = 0
  ·by_cases k3 : E3 = 0
   ·rw [fin true (by simp [k1, k2, k3])]
    ((refine Bn_eqT ?_ ?_; focus omega); refine Gd_T ?_; refine Gd_T ?_; (refine Bn_eqT ?_ ?_; focus omega); refine Pick_T ?_; refine Gd_T ?_; refine Gd_T ?_; (refine Bn_eqT ?_ ?_; focus omega); refine Pick_T ?_)
    exact Ret.mk ⟨xx, rfl⟩
   ·rw [fin false (by simp [k3])]
    ((refine Bn_eqT ?_ ?_; focus omega); refine Gd_T ?_; refine Gd_T ?_; (refine Bn_eqT ?_ ?_; focus omega); refine Pick_T ?_; refine Gd_T ?_; refine Gd_T ?_; (refine Bn_eqF ?_ ?_; focus omega); refine Pick_T ?_)
    exact Ret.mk ⟨xx, rfl⟩
  ·rw [fin false (by simp [k2])]
   ((refine Bn_eqT ?_ ?_; focus omega); refine Gd_T ?_; refine Gd_T ?_; (refine Bn_eqF ?_ ?_; focus omega); refine Pick_T ?_; refine Gd_FT ?_; refine Gd_FT ?_; refine Pick_F ?_)
   exact Ret.mk ⟨xx, rfl⟩
 ·rw [fin false (by simp [k1])]
  ((refine Bn_eqF ?_ ?_; focus omega); refine Gd_FT ?_; refine Gd_FT ?_; refine Pick_F ?_; refine Gd_FT ?_; refine Gd_FT ?_; refine Pick_F ?_)
  exact Ret.mk ⟨xx, rfl⟩
include hn hd hm hc
theorem c_cross_bad (h : ¬ (okR n d ∧ okR m c)) : Calls Tryz.prog 107 #[.agg #[str n, str d], .agg #[str m, str c]] w (Ret fun r w' => Ext w w' ∧ r = .tuple #[str [], str [], str [], .bool false]) := by
 apply e_ref04_cross
 unfold s_ref04_cross
 refine bxR fun g2 w1 x1 hg2 _ b2 => ?_
 refine bxR fun g3 w2 x2 hg3 _ b3 => ?_
 replace b2 := b2.ext x2
 refine ldR b2 ?_
 by_cases o1 : okR n d
 ·have v1 := c_fValid (w := w2) hn hd
  rw [okB_t o1] at v1
  refine Cl1 n_ref04_Valid v1 fun w3 x3 => ?_
  refine ldR (b3.ext x3) ?_
  have v2 := c_fValid (w := w3) hm hc
  rw [okB_f (fun h2 => h ⟨o1, h2⟩)] at v2
  refine Cl1 n_ref04_Valid v2 fun w4 x4 => ?_
  (refine Un_T ?_; refine Gd_F ?_; refine Gd_F ?_; refine Un_F ?_; refine Pick_F ?_; refine If_T ?_)
  exact Ret.mk ⟨((x1.tr x2).tr x3).tr x4, rfl⟩
 ·have v1 := c_fValid (w := w2) hn hd
  rw [okB_f o1] at v1
  refine Cl1 n_ref04_Valid v1 fun w3 x3 => ?_
  refine ldR (b3.ext x3) ?_
  refine Cl1 n_ref04_Valid (c_fValid (w := w3) hm hc) fun w4 x4 => ?_
  (refine Un_F ?_; refine Gd_TF ?_; refine Gd_TF ?_; refine Pick_T ?_; refine If_T ?_)
  exact Ret.mk ⟨((x1.tr x2).tr x3).tr x4, rfl⟩
end
section
variable {n d m c : List UInt8} {w : World} (hn : n.length ≤ 1000000) (hd : d.length ≤ 1000000) (hm : m.length ≤ 1000000) (hc : c.length ≤ 1000000)
include hn hd hm hc
theorem fAdd_bad (h : ¬ (okR n d ∧ okR m c)) : Calls Tryz.prog 74 #[.agg #[str n, str d], .agg #[str m, str c]] w (Ret fun r w' => Ext w w' ∧ r = rv rBad) := by
 apply e_ref04_Add
 unfold s_ref04_Add
 refine bxR fun g2 w1 x1 hg2 _ b2 => ?_
 refine bxR fun g3 w2 x2 hg3 _ b3 => ?_
 refine alR fun g4 w3 x3 hg4 _ b4 => ?_
 refine ldR ((b2.ext x2).ext x3) (ldR (b3.ext x3) ?_)
 have xx := (x1.tr x2).tr x3
 have hw0 : w.heap.size ≤ g4 := by have := x1.size; have := x2.size; omega
 refine Cl4 n_ref04_cross (c_cross_bad hn hd hm hc h) fun w4 x4 => ?_
 (refine Un_F ?_; refine If_T ?_)
 exact endBad (b4.ext x4) (xx.tr x4) hw0
theorem fMul_bad (h : ¬ (okR n d ∧ okR m c)) : Calls Tryz.prog 73 #[.agg #[str n, str d], .agg #[str m, str c]] w (Ret fun r w' => Ext w w' ∧ r = rv rBad) := by
 apply e_ref04_Mul
 unfold s_ref04_Mul
 refine bxR fun g2 w1 x1 hg2 _ b2 => ?_
 refine bxR fun g3 w2 x2 hg3 _ b3 => ?_
 refine alR fun g4 w3 x3 hg4 _ b4 => ?_
 have xx := (x1.tr x2).tr x3
 have hw0 : w.heap.size ≤ g4 := by have := x1.size; have := x2.size; omega
 refine ldR ((b2.ext x2).ext x3) ?_
 replace b3 := b3.ext x3
 by_cases o1 : okR n d
 ·have v1 := c_fValid (w := w3) hn hd
  rw [okB_t o1] at v1
  refine Cl1 n_ref04_Valid v1 fun w4 x4 => ?_
  refine ldR (b3.ext x4) ?_
  have v2 := c_fValid (w := w4) hm hc
  rw [okB_f (fun h2 => h ⟨o1, h2⟩)] at v2
  refine Cl1 n_ref04_Valid v2 fun w5 x5 => ?_
  (refine Un_T ?_; refine Gd_F ?_; refine Gd_F ?_; refine Un_F ?_; refine Pick_F ?_; refine If_T ?_)
  exact endBad ((b4.ext x4).ext x5) ((xx.tr x4).tr x5) hw0
 ·have v1 := c_fValid (w := w3) hn hd
  rw [okB_f o1] at v1
  refine Cl1 n_ref04_Valid v1 fun w4 x4 => ?_
  refine ldR (b3.ext x4) ?_
  refine Cl1 n_ref04_Valid (c_fValid (w := w4) hm hc) fun w5 x5 => ?_
  (refine Un_F ?_; refine Gd_TF ?_; refine Gd_TF ?_; refine Pick_T ?_; refine If_T ?_)
  exact endBad ((b4.ext x4).ext x5) ((xx.tr x4).tr x5) hw0
end
section
variable {x y : Rat} {w : World} (hx : RB x) (hy : RB y)
include hx hy
theorem fAdd_ok : Calls Tryz.prog 74 #[fq x, fq y] w (Ret fun r w' => Ext w w' ∧ r = rv (addQ x y)) := by
 have c0 := fun w : World => c_cross (w := w) hx hy
 by_cases k : crossOk x y = true
 ·rw [k] at c0
  obtain ⟨s1, s2, s3⟩ := of_decide_eq_true k
  rw [resA_ok s1, resA_ok s2, resA_ok s3] at c0
  have cA := fun w : World => t_rAdd (w := w) s1 s2
  by_cases s4 : (x.num * (y.den : Int) + y.num * (x.den : Int)).natAbs < MaxI
  ·rw [resA_ok s4, resE_ok s4] at cA
   have e : addQ x y = makeQ (x.num * (y.den : Int) + y.num * (x.den : Int)) ((x.den : Int) * (y.den : Int)) := by
    unfold addQ makeQ; rw [if_pos ⟨⟨s1, s2⟩, s4, s3⟩, if_neg (dd_ne x y), q_add]
   rw [e]
   apply e_ref04_Add
   unfold s_ref04_Add
   refine bxR fun g2 w1 x1 hg2 _ b2 => ?_
   refine bxR fun g3 w2 x2 hg3 _ b3 => ?_
   refine alR fun g4 w3 x3 hg4 _ b4 => ?_
   refine ldR ((b2.ext x2).ext x3) (ldR (b3.ext x3) ?_)
   have xx := (x1.tr x2).tr x3
   have hw0 : w.heap.size ≤ g4 := by have := x1.size; have := x2.size; omega
   refine Cl4 n_ref04_cross (c0 w3) fun w4 x4 => ?_
   (refine Un_T ?_; refine If_F ?_)
   refine Cl2 n_ref03_Add (cA w4) fun w5 x5 => ?_
   ((refine Bn_neF ?_ ?_; focus omega); refine If_F ?_)
   refine Cl2 n_ref04_Make (fMake_ok (itoa_ok s4) (itoa_ok s3) s4 s3) fun w6 x6 => ?_
   exact endR (((b4.ext x4).ext x5).ext x6) (((xx.tr x4).tr x5).tr x6) hw0 rfl
  ·rw [resE_bad s4] at cA
   have e : addQ x y = rBad := by unfold addQ; rw [if_neg (fun h => s4 h.2.1)]
   rw [e]
   apply e_ref04_Add
   unfold s_ref04_Add
   refine bxR fun g2 w1 x1 hg2 _ b2 => ?_
   refine bxR fun g3 w2 x2 hg3 _ b3 => ?_
   refine alR fun g4 w3 x3 hg4 _ b4 => ?_
   refine ldR ((b2.ext x2).ext x3) (ldR (b3.ext x3) ?_)
   have xx := (x1.tr x2).tr x3
   have hw0 : w.heap.size ≤ g4 := by have := x1.size; have := x2.size; omega
   refine Cl4 n_ref04_cross (c0 w3) fun w4 x4 => ?_
   (refine Un_T ?_; refine If_F ?_)
   refine Cl2 n_ref03_Add (cA w4) fun w5 x5 => ?_
   ((refine Bn_neT ?_ ?_; focus omega); refine If_T ?_)
   exact endBad ((b4.ext x4).ext x5) ((xx.tr x4).tr x5) hw0
 ·have k' : crossOk x y = false := by simpa using k
  rw [k'] at c0
  have e : addQ x y = rBad := by unfold addQ; rw [if_neg (fun h => k (decide_eq_true ⟨h.1.1, h.1.2, h.2.2⟩))]
  rw [e]
  apply e_ref04_Add
  unfold s_ref04_Add
  refine bxR fun g2 w1 x1 hg2 _ b2 => ?_
  refine bxR fun g3 w2 x2 hg3 _ b3 => ?_
  refine alR fun g4 w3 x3 hg4 _ b4 => ?_
  refine ldR ((b2.ext x2).ext x3) (ldR (b3.ext x3) ?_)
  have xx := (x1.tr x2).tr x3
  have hw0 : w.heap.size ≤ g4 := by have := x1.size; have := x2.size; omega
  refine Cl4 n_ref04_cross (c0 w3) fun w4 x4 => ?_
  (refine Un_F ?_; refine If_T ?_)
  exact endBad (b4.ext x4) (xx.tr x4) hw0
theorem fMul_ok : Calls Tryz.prog 73 #[fq x, fq y] w (Ret fun r w' => Ext w w' ∧ r = rv (mulQ x y)) := by
 obtain ⟨E1, h1⟩ : ∃ E, resE (x.num * y.num) = E := ⟨_, rfl⟩
 obtain ⟨E2, h2⟩ : ∃ E, resE ((x.den : Int) * (y.den : Int)) = E := ⟨_, rfl⟩
 have z1 := resE_two (x.num * y.num)
 have z2 := resE_two ((x.den : Int) * (y.den : Int))
 have i1 := resE_iff (z := x.num * y.num)
 have i2 := resE_iff (z := (x.den : Int) * (y.den : Int))
 rw [h1] at z1 i1
 rw [h2] at z2 i2
 have e0 : ¬ (E1 = 0 ∧ E2 = 0) → mulQ x y = rBad := by
  intro h; unfold mulQ; rw [if_neg (fun k : muOk x y => h ⟨i1.2 k.1, i2.2 k.2⟩)]
 apply e_ref04_Mul
 unfold s_ref04_Mul
 refine bxR fun g2 w1 x1 hg2 _ b2 => ?_
 refine bxR fun g3 w2 x2 hg3 _ b3 => ?_
 refine alR fun g4 w3 x3 hg4 _ b4 => ?_
 have xx := (x1.tr x2).tr x3
 have hw0 : w.heap.size ≤ g4 := by have := x1.size; have := x2.size; omega
 replace b2 := (b2.ext x2).ext x3
 replace b3 := b3.ext x3
 refine ldR b2 ?_
 have v1 := c_fValid (w := w3) (itoa_ok hx.n) (itoa_ok hx.d)
 rw [okB_t (okR_q.2 hx)] at v1
 refine Cl1 n_ref04_Valid v1 fun w4 x4 => ?_
 replace b2 := b2.ext x4
 replace b3 := b3.ext x4
 replace b4 := b4.ext x4
 refine ldR b3 ?_
 have v2 := c_fValid (w := w4) (itoa_ok hy.n) (itoa_ok hy.d)
 rw [okB_t (okR_q.2 hy)] at v2
 refine Cl1 n_ref04_Valid v2 fun w5 x5 => ?_
 replace b2 := b2.ext x5
 replace b3 := b3.ext x5
 replace b4 := b4.ext x5
 (refine Un_T ?_; refine Gd_F ?_; refine Gd_F ?_; refine Un_T ?_; refine Pick_F ?_; refine If_F ?_)
 refine fl0 b2 (fl0 b3 ?_)
 have c1 := t_rMul (w := w5) hx.n hy.n
 rw [h1] at c1
 refine Cl2 n_ref03_Mul c1 fun w6 x6 => ?_
 replace b2 := b2.ext x6
 replace b3 := b3.ext x6
 replace b4 := b4.ext x6
 refine fl1 b2 (fl1 b3 ?_)
 have c2 := t_rMul (w := w6) hx.d hy.d
 rw [h2] at c2
 refine Cl2 n_ref03_Mul c2 fun w7 x7 => ?_
 replace b4 := b4.ext x7
 replace xx := (((xx.tr x4).tr x5).tr x6).tr x7
 clear b2 b3 v1 v2 c1 c2 x1 x2 x3 x4 x5 x6 x7 hg2 hg3 hg4
 by_cases k1 : E1 = 0
 ·by_cases k2 : E2 = 0
  ·have s1 := i1.1 k1
   have s2 := i2.1 k2
   clear i1 i2 h1 h2 e0
   have e : mulQ x y = makeQ (x.num * y.num) ((x.den : Int) * (y.den : Int)) := by unfold mulQ makeQ; rw [if_pos ⟨s1, s2⟩, if_neg (dd_ne x y), q_mul]
   have cm := fMake_ok (w := w7) (itoa_ok s1) (itoa_ok s2) s1 s2
   rw [← e] at cm
   ((refine Bn_neF ?_ ?_; focus omega); refine Gd_F ?_; refine Gd_F ?_; (refine Bn_neF ?_ ?_; focus omega); refine Pick_F ?_; refine If_F ?_)
   rw [resA_ok s1, resA_ok s2]
   clear s1 s2 z1 z2
   refine Cl2 n_ref04_Make cm fun w8 x8 => ?_
   exact endR (b4.ext x8) (xx.tr x8) hw0 rfl
  ·rw [e0 (fun h => k2 h.2)]
   clear i1 i2 h1 h2 e0
   ((refine Bn_neF ?_ ?_; focus omega); refine Gd_F ?_; refine Gd_F ?_; (refine Bn_neT ?_ ?_; focus omega); refine Pick_F ?_; refine If_T ?_)
   exact endBad b4 xx hw0
 ·rw [e0 (fun h => k1 h.1)]
  clear i1 i2 h1 h2 e0
  ((refine Bn_neT ?_ ?_; focus omega); refine Gd_TF ?_; refine Gd_TF ?_; refine Pick_T ?_; refine If_T ?_)
  exact endBad b4 xx hw0
end
section
variable {n d m c : List UInt8} {w : World} (hn : n.length ≤ 1000000) (hd : d.length ≤ 1000000) (hm : m.length ≤ 1000000) (hc : c.length ≤ 1000000)
include hn hd hm hc
theorem c_fAdd : Calls Tryz.prog 74 #[.agg #[str n, str d], .agg #[str m, str c]] w (Ret fun r w' => Ext w w' ∧ r = rv (ans2 addQ rBad n d m c)) := by
 by_cases h : okR n d ∧ okR m c
 ·obtain ⟨⟨x, rfl, rfl, hx⟩, ⟨y, rfl, rfl, hy⟩⟩ := h
  rw [ans2_ok hx hy]; exact fAdd_ok hx hy
 ·rw [ans2_bad h]; exact fAdd_bad hn hd hm hc h
theorem c_fMul : Calls Tryz.prog 73 #[.agg #[str n, str d], .agg #[str m, str c]] w (Ret fun r w' => Ext w w' ∧ r = rv (ans2 mulQ rBad n d m c)) := by
 by_cases h : okR n d ∧ okR m c
 ·obtain ⟨⟨x, rfl, rfl, hx⟩, ⟨y, rfl, rfl, hy⟩⟩ := h
  rw [ans2_ok hx hy]; exact fMul_ok hx hy
 ·rw [ans2_bad h]; exact fMul_bad hn hd hm hc h
end
end Go.Proofs.YthjhkpefammjkaaGreatDoor
