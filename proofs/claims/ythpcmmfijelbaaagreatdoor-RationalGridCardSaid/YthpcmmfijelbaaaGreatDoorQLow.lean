/-
  Contracts of functions of the program, and plain lemmas on numbers and strings. By an AI agent.
-/
import Derived.Test.YthpcmmfijelbaaaGreatDoorQSane
set_option linter.unusedSimpArgs false
set_option linter.unusedVariables false
set_option linter.unusedSectionVars false
namespace Go.Proofs.YthpcmmfijelbaaaGreatDoor
open Go Go.Eng Go.Proofs Go.Num Go.RowKit
set_option maxRecDepth 100000
set_option linter.unusedVariables false
set_option linter.unusedSectionVars false
abbrev R64 (x : Int) : Prop := -9223372036854775808 ≤ x ∧ x ≤ 9223372036854775807
theorem rq_cross {q : Rat} {n d : Int} (hd : d ≠ 0) (h : q.num * d = n * (q.den : Int)) : makeQ n d = rQ q := by
  unfold makeQ; rw [if_neg hd]
  have := cross_rat (a := n) (b := d) (c := q.num) (d := (q.den : Int)) hd (Int.ne_of_gt (den_pos q)) h.symm
  rw [this, num_den']
theorem small_MaxI' {z : Int} (h : z.natAbs < 10000000000) : z.natAbs < MaxI := Sz.max (k := 10) (by unfold Sz; omega) (by decide)
theorem rb_len {q : Rat} (h : RB q) : (Lib.itoa q.num).length ≤ 1000000 ∧ (Lib.itoa (q.den : Int)).length ≤ 1000000 := ⟨itoa_ok h.n, itoa_ok h.d⟩
theorem k_valq {q : Rat} {w : World} (h : RB q) (hT : Tab w) : Calls Tryz.prog 17 #[fq q] w (Ret fun r w' => Ext w w' ∧ r = .bool true) := by
  have := c_qValid (w := w) (rb_len h).1 (rb_len h).2 hT
  rwa [okB_t (okR_q.2 h)] at this
theorem k_cmpq {x y : Rat} {w : World} (hx : RB x) (hy : RB y) (hT : Tab w) : Calls Tryz.prog 23 #[fq x, fq y] w (Ret fun r w' => Ext w w' ∧ r = .int .i64 (cmpQ x y)) := by
  have := c_qCmp (w := w) (rb_len hx).1 (rb_len hx).2 (rb_len hy).1 (rb_len hy).2 hT
  rwa [ans2_ok hx hy] at this
theorem k_make {n d : Int} {q : Rat} {w : World} (hn : n.natAbs < MaxI) (hd : d.natAbs < MaxI) (h : makeQ n d = rQ q) (hT : Tab w) : Calls Tryz.prog 22 #[str (Lib.itoa n), str (Lib.itoa d)] w (Ret fun r w' => Ext w w' ∧ r = .tuple #[fq q, .int .i64 0]) := by
  have := c_Make (w := w) (itoa_ok hn) (itoa_ok hd) hT
  rwa [makeS_ok hn hd, h] at this
theorem k_rmulI {x y : Int} {w : World} (hx : x.natAbs < MaxI) (hy : y.natAbs < MaxI) (h : (x * y).natAbs < MaxI) : Calls Tryz.prog 21 #[str (Lib.itoa x), str (Lib.itoa y)] w (Ret fun r w' => Ext w w' ∧ r = .tuple #[str (Lib.itoa (x * y)), .int .i64 0]) := by
  have := t_rMul (w := w) hx hy
  rwa [resA_ok h, resE_ok h] at this
theorem i_Lowest {x0 x1 x2 x3 f : Int} {sg : Bool} {w : World} (r0 : R64 x0) (r1 : R64 x1) (r2 : R64 x2) (r3 : R64 x3) (rf : R64 f) (hT : Tab w) (hM : MaxV w) :
    Calls Tryz.prog 4 #[.agg #[.int .i64 x0, .int .i64 x1, .int .i64 x2, .int .i64 x3], .int .i64 f, .bool sg] w (Ret fun r w' => Ext w w' ∧ r = .bool true) := by
  have hp := pickZ_bd (c := f) (n := 1000000) (by decide)
  have cp := fun w : World => c_pick (w := w) rf.1 rf.2 (n := 1000000) (by decide)
  obtain ⟨p, hpe⟩ : ∃ p, p = pickZ f 1000000 := ⟨_, rfl⟩
  rw [← hpe] at hp
  simp only [← hpe] at cp
  apply e_law04_RationalLowest
  unfold s_law04_RationalLowest
  refine bxI4 fun g3 w1 x1 hg3 hl3 b3 => ?_
  have k3 : w.heap.size ≤ g3 := hg3
  have xx := x1
  clear hg3 hl3
  refine Cl1 n_law04_sane (c_sane (hT.ext xx) (hM.ext xx)) fun w2 x2 => ?_
  replace b3 := b3.ext x2
  replace xx := xx.tr x2
  refine ldI4 b3 ?_
  refine Cl_i n_ref04_Long (i_Long r0 r1 r2 r3) ?_
  rintro _ w3 ⟨x3, q, hq, rfl⟩
  replace b3 := b3.ext x3
  replace xx := xx.tr x3
  have hqb := hq.rb (by decide) (by decide)
  have z3 := b3.lt
  refine alR fun g8 w4 x4 hg8 hl8 b8 => ?_
  have k8 : w.heap.size ≤ g8 := by have := xx.size; omega
  have n3x8 : g3 ≠ g8 := by omega
  clear z3
  replace b3 := b3.ext x4
  replace xx := xx.tr x4
  clear hg8 hl8
  refine stoR b8 fun w5 o5 b8 => ?_
  replace b3 := blkOwn b3 n3x8 o5
  replace xx := o5.ext xx k8
  refine Cl1 n_law04_pick (cp w5) fun w6 x6 => ?_
  replace b3 := b3.ext x6
  replace b8 := b8.ext x6
  replace xx := xx.tr x6
  refine Bn_ad (by omega) (by omega) ?_
  refine Jn1.mk ?_
  intro K hK
  have main : ∀ z : Int, (z = 1 + p ∨ z = -(1 + p)) → K (.int .i64 z) w6 := by
    intro z hz
    refine hK _ _ ?_
    have hz0 : z ≠ 0 := by omega
    have hzM : z.natAbs < MaxI := small_MaxI' (by omega)
    have hzS : Sz 7 z := by unfold Sz; omega
    have hnM := (hq.1.mul hzS).max (by decide)
    have hdM := (hq.2.mul hzS).max (by decide)
    have e1 : makeQ (q.num * z) ((q.den : Int) * z) = rQ q := rq_cross (Int.mul_ne_zero (Int.ne_of_gt (den_pos q)) hz0) (by rw [Int.mul_assoc, Int.mul_comm z])
    have e2 : makeQ q.num (q.den : Int) = rQ q := rq_cross (Int.ne_of_gt (den_pos q)) rfl
    have e3 : makeQ 0 z = rQ 0 := rq_cross hz0 (by show (0 : Int) * z = 0 * 1; omega)
    refine Cl1 n_ref03_FromInt (c_rFromInt (by omega) (by omega)) fun w7 x7 => ?_
    replace b3 := b3.ext x7
    replace b8 := b8.ext x7
    replace xx := xx.tr x7
    refine fl0 b8 ?_
    refine Cl2 n_ref03_Mul (k_rmulI hqb.n hzM hnM) fun w8 x8 => ?_
    replace b3 := b3.ext x8
    replace b8 := b8.ext x8
    replace xx := xx.tr x8
    refine fl1 b8 ?_
    refine Cl2 n_ref03_Mul (k_rmulI hqb.d hzM hdM) fun w9 x9 => ?_
    replace b3 := b3.ext x9
    replace b8 := b8.ext x9
    replace xx := xx.tr x9
    refine Cl2 n_rational_Make (k_make hnM hdM e1 (hT.ext xx)) fun w10 x10 => ?_
    replace b3 := b3.ext x10
    replace b8 := b8.ext x10
    replace xx := xx.tr x10
    have z3 := b3.lt
    have z8 := b8.lt
    refine alR fun g15 w11 x11 hg15 hl15 b15 => ?_
    have k15 : w.heap.size ≤ g15 := by have := xx.size; omega
    have n3x15 : g3 ≠ g15 := by omega
    clear z3
    have n8x15 : g8 ≠ g15 := by omega
    clear z8
    replace b3 := b3.ext x11
    replace b8 := b8.ext x11
    replace xx := xx.tr x11
    clear hg15 hl15
    refine stoR b15 fun w12 o12 b15 => ?_
    replace b3 := blkOwn b3 n3x15 o12
    replace b8 := blkOwn b8 n8x15 o12
    replace xx := o12.ext xx k15
    refine fl0 b8 (fl1 b8 ?_)
    refine Cl2 n_rational_Make (k_make hqb.n hqb.d e2 (hT.ext xx)) fun w13 x13 => ?_
    replace b3 := b3.ext x13
    replace b8 := b8.ext x13
    replace b15 := b15.ext x13
    replace xx := xx.tr x13
    have z3 := b3.lt
    have z8 := b8.lt
    have z15 := b15.lt
    refine alR fun g17 w14 x14 hg17 hl17 b17 => ?_
    have k17 : w.heap.size ≤ g17 := by have := xx.size; omega
    have n3x17 : g3 ≠ g17 := by omega
    clear z3
    have n8x17 : g8 ≠ g17 := by omega
    clear z8
    have n15x17 : g15 ≠ g17 := by omega
    clear z15
    replace b3 := b3.ext x14
    replace b8 := b8.ext x14
    replace b15 := b15.ext x14
    replace xx := xx.tr x14
    clear hg17 hl17
    refine stoR b17 fun w15 o15 b17 => ?_
    replace b3 := blkOwn b3 n3x17 o15
    replace b8 := blkOwn b8 n8x17 o15
    replace b15 := blkOwn b15 n15x17 o15
    replace xx := o15.ext xx k17
    have c0 := k_make (w := w15) m0 hzM e3 (hT.ext xx)
    rw [itoa0, fq0] at c0
    refine Cl2 n_rational_Make c0 fun w16 x16 => ?_
    replace b3 := b3.ext x16
    replace b8 := b8.ext x16
    replace b15 := b15.ext x16
    replace b17 := b17.ext x16
    replace xx := xx.tr x16
    have z3 := b3.lt
    have z8 := b8.lt
    have z15 := b15.lt
    have z17 := b17.lt
    refine alR fun g19 w17 x17 hg19 hl19 b19 => ?_
    have k19 : w.heap.size ≤ g19 := by have := xx.size; omega
    have n3x19 : g3 ≠ g19 := by omega
    clear z3
    have n8x19 : g8 ≠ g19 := by omega
    clear z8
    have n15x19 : g15 ≠ g19 := by omega
    clear z15
    have n17x19 : g17 ≠ g19 := by omega
    clear z17
    replace b3 := b3.ext x17
    replace b8 := b8.ext x17
    replace b15 := b15.ext x17
    replace b17 := b17.ext x17
    replace xx := xx.tr x17
    clear hg19 hl19
    refine stoR b19 fun w18 o18 b19 => ?_
    replace b3 := blkOwn b3 n3x19 o18
    replace b8 := blkOwn b8 n8x19 o18
    replace b15 := blkOwn b15 n15x19 o18
    replace b17 := blkOwn b17 n17x19 o18
    replace xx := o18.ext xx k19
    refine GdP_T (GdP_T (Dv_eqT rfl (PickP_T ?_)))
    refine GdP_T (GdP_T (Dv_eqT rfl (PickP_T ?_)))
    refine GdP_T (GdP_T (Dv_eqT rfl (PickP_T ?_)))
    refine GdP_T (dR2x0 (w := w18.drew) b15 (GdP_T (dR2x0 (w := w18.drew) b17 (GdP_T (dqEqT (same2 _ _) (PickP_T ?_))))))
    refine GdP_T (dR2x0 (w := w18.drew) b15 (GdP_T (dR2x0 (w := w18.drew) b8 (GdP_T (dqEqT (same2 _ _) (PickP_T ?_))))))
    refine GdP_T (dR2x0 (w := w18.drew) b15 (Gd_T ?_))
    refine Cl1 n_rational_Valid (k_valq hqb (hT.ext xx.dr)) fun w19 x19 => ?_
    replace x19 : Ext w18 w19 := (Ext.refl w18).dr.tr x19
    replace b3 := b3.ext x19
    replace b8 := b8.ext x19
    replace b15 := b15.ext x19
    replace b17 := b17.ext x19
    replace b19 := b19.ext x19
    replace xx := xx.tr x19
    refine PickP_T (GdP_T (dR2x0 b15 (GdP_T (dR2x0 b17 (Gd_T ?_)))))
    refine Cl1 n_rational_Compare (k_cmpq hqb hqb (hT.ext xx)) fun w20 x20 => ?_
    replace b3 := b3.ext x20
    replace b8 := b8.ext x20
    replace b15 := b15.ext x20
    replace b17 := b17.ext x20
    replace b19 := b19.ext x20
    replace xx := xx.tr x20
    refine GdP_T (Dv_eqT (cmpQ_eq rfl) (PickP_T ?_))
    refine GdP_T (dR2x0 b19 (Gd_T ?_))
    refine Cl1 n_law04_is c_is fun w21 x21 => ?_
    replace b3 := b3.ext x21
    replace b8 := b8.ext x21
    replace b15 := b15.ext x21
    replace b17 := b17.ext x21
    replace b19 := b19.ext x21
    replace xx := xx.tr x21
    refine Kg_T (kR2x0 b19 (GdP_T (dqEqT (same2 _ _) (PickP_T ?_))))
    refine GdP_T (dR2x0 b15 (GdP_T (dR2x0 b17 (Gd_T ?_))))
    refine Cl1 n_rational_Print (c_Print (rb_len hqb).1 (rb_len hqb).2 (hT.ext xx)) fun w22 x22 => ?_
    replace b3 := b3.ext x22
    replace b8 := b8.ext x22
    replace b15 := b15.ext x22
    replace b17 := b17.ext x22
    replace b19 := b19.ext x22
    replace xx := xx.tr x22
    refine Kg_T (kR2x0 b17 (Gd_T ?_))
    refine Cl1 n_rational_Print (c_Print (rb_len hqb).1 (rb_len hqb).2 (hT.ext xx)) fun w23 x23 => ?_
    replace b3 := b3.ext x23
    replace b8 := b8.ext x23
    replace b15 := b15.ext x23
    replace b17 := b17.ext x23
    replace b19 := b19.ext x23
    replace xx := xx.tr x23
    refine GdP_T (Dv_eqST (PickP_T ?_))
    exact Ret.mk ⟨xx, rfl⟩
  cases sg with
  | true =>
    refine If_T (Un_ng (by omega) (by omega) ?_)
    exact main _ (.inr rfl)
  | false =>
    refine If_F ?_
    exact main _ (.inl rfl)
end Go.Proofs.YthpcmmfijelbaaaGreatDoor
