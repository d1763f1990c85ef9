/-
  Contracts of functions of the program, and plain lemmas on numbers and strings. By an AI agent.
-/
import Derived.Test.YthpcmmfijelbaaaGreatDoorQHelp
set_option linter.unusedSimpArgs false
set_option linter.unusedVariables false
set_option linter.unusedSectionVars false
namespace Go.Proofs.YthpcmmfijelbaaaGreatDoor
open Go Go.Eng Go.Proofs Go.Num Go.RowKit
set_option maxRecDepth 100000
set_option linter.unusedVariables false
set_option linter.unusedSectionVars false
theorem mb {a b A B : Int} (h1 : -A ≤ a) (h2 : a ≤ A) (h3 : -B ≤ b) (h4 : b ≤ B) : -(A * B) ≤ a * b ∧ a * b ≤ A * B := by
  have h : (a * b).natAbs ≤ A.natAbs * B.natAbs := by
    rw [Int.natAbs_mul]
    exact Nat.mul_le_mul (by omega) (by omega)
  have e : ((A.natAbs * B.natAbs : Nat) : Int) = A * B := by
    rw [Int.natCast_mul, Int.natAbs_of_nonneg (by omega), Int.natAbs_of_nonneg (by omega)]
  omega
abbrev Bd1 (z : Int) : Prop := -1800000000 ≤ z ∧ z ≤ 1800000000
structure QF (q : Rat) (W0 W1 : Int) : Prop where
  rb : RB q
  n : Bd1 q.num
  d : Bd1 (q.den : Int)
  p : 1 ≤ (q.den : Int)
  w0 : Bd1 W0
  w1 : Bd1 W1
  e : q.num * W1 = W0 * (q.den : Int)
theorem QF.of {q : Rat} {W0 W1 : Int} (h : q = (W0 : Rat) / W1) (h0 : W1 ≠ 0) (b0 : Bd1 W0) (b1 : Bd1 W1) : QF q W0 W1 := by
  have hn := num_le (n := W0) h0
  have hd := den_le (n := W0) h0
  rw [← h] at hn hd
  have hp := den_pos q
  exact ⟨⟨small_MaxI' (by omega), small_MaxI' (by omega)⟩, ⟨by omega, by omega⟩, ⟨by omega, by omega⟩, by omega, b0, b1, rat_cross (Int.ne_of_gt hp) h0 (by rw [num_den' q]; exact h)⟩
theorem QF.m1 {q : Rat} {W0 W1 : Int} (h : QF q W0 W1) : -9223372036854775808 ≤ q.num * W1 ∧ q.num * W1 ≤ 9223372036854775807 := by
  have := mb h.n.1 h.n.2 h.w1.1 h.w1.2; omega
theorem QF.m2 {q : Rat} {W0 W1 : Int} (h : QF q W0 W1) : -9223372036854775808 ≤ W0 * (q.den : Int) ∧ W0 * (q.den : Int) ≤ 9223372036854775807 := by
  have := mb h.w0.1 h.w0.2 h.d.1 h.d.2; omega
theorem k_toInt {z : Int} {w : World} (h : Bd1 z) : Calls Tryz.prog 43 #[str (Lib.itoa z)] w (Ret fun r w' => Ext w w' ∧ r = .tuple #[.int .i64 z, .int .i64 0]) := by
  have hm : z.natAbs < MaxI := small_MaxI' (by omega)
  have := c_rToInt (w := w) (itoa_ok hm)
  rw [toIntV_itoa hm, if_pos (by omega)] at this
  exact this
theorem cast_ne {d : Int} (h : 0 < d) : (d : Rat) ≠ 0 := int_ne (by omega)
theorem f_add {n d m c : Int} (hd : 0 < d) (hc : 0 < c) : (n : Rat) / d + (m : Rat) / c = ((n * c + m * d : Int) : Rat) / ((d * c : Int) : Rat) := by
  have h1 := cast_ne hd
  have h2 := cast_ne hc
  rw [Rat.intCast_add, Rat.intCast_mul, Rat.intCast_mul, Rat.intCast_mul]
  grind
theorem f_sub {n d m c : Int} (hd : 0 < d) (hc : 0 < c) : (n : Rat) / d - (m : Rat) / c = ((n * c - m * d : Int) : Rat) / ((d * c : Int) : Rat) := by
  have h1 := cast_ne hd
  have h2 := cast_ne hc
  rw [Rat.intCast_sub, Rat.intCast_mul, Rat.intCast_mul, Rat.intCast_mul]
  grind
theorem f_mul {n d m c : Int} (hd : 0 < d) (hc : 0 < c) : (n : Rat) / d * ((m : Rat) / c) = ((n * m : Int) : Rat) / ((d * c : Int) : Rat) := by
  have h1 := cast_ne hd
  have h2 := cast_ne hc
  rw [Rat.intCast_mul, Rat.intCast_mul]
  grind
theorem f_div {n d m c : Int} (hd : 0 < d) (hc : 0 < c) (hm : m ≠ 0) : (n : Rat) / d / ((m : Rat) / c) = ((n * c : Int) : Rat) / ((d * m : Int) : Rat) := by
  have h1 := cast_ne hd
  have h2 := cast_ne hc
  have h3 := int_ne hm
  rw [Rat.intCast_mul, Rat.intCast_mul]
  grind
theorem f_ne {m c : Int} (hc : 0 < c) (hm : m ≠ 0) : (m : Rat) / c ≠ 0 := by
  have h2 := cast_ne hc
  have h3 := int_ne hm
  grind
theorem f_lt {n d m c : Int} (hd : 0 < d) (hc : 0 < c) (h : n * c < m * d) : (n : Rat) / d < (m : Rat) / c := by
  have h1 : (0 : Rat) < d := by exact_mod_cast hd
  have h2 : (0 : Rat) < c := by exact_mod_cast hc
  have h3 : (n : Rat) * c < (m : Rat) * d := by exact_mod_cast h
  rw [Rat.div_lt_iff h1]
  have e : (m : Rat) / c * d = (m * d) / c := by grind
  rw [e, Rat.lt_div_iff h2]
  exact h3
theorem f_eq {n d m c : Int} (hd : 0 < d) (hc : 0 < c) (h : n * c = m * d) : (n : Rat) / d = (m : Rat) / c := cross_rat (by omega) (by omega) h
theorem machF {n d m c : Int} (hn : -30000 ≤ n ∧ n ≤ 30000) (hd : 1 ≤ d ∧ d ≤ 30000) (hm : -30000 ≤ m ∧ m ≤ 30000) (hc : 1 ≤ c ∧ c ≤ 30000) :
    ∃ (x y q0 q1 q2 q3 : Rat) (D : R3), RB x ∧ RB y ∧ makeQ n d = rQ x ∧ makeQ m c = rQ y ∧ addQ x y = rQ q0 ∧ subQ x y = rQ q1 ∧ mulQ x y = rQ q2 ∧ divQ x y = D ∧ (m = 0 → D.1 = [] ∧ D.2.1 = [] ∧ D.2.2 = 40) ∧ (m ≠ 0 → D.1 = Lib.itoa q3.num ∧ D.2.1 = Lib.itoa (q3.den : Int) ∧ D.2.2 = 0)
      ∧ QF q0 (n * c + m * d) (d * c) ∧ QF q1 (n * c - m * d) (d * c) ∧ QF q2 (n * m) (d * c) ∧ (m ≠ 0 → QF q3 (n * c) (d * m)) ∧ (n * c < m * d → cmpQ x y = -1) ∧ (m * d < n * c → cmpQ x y = 1) ∧ (n * c = m * d → cmpQ x y = 0) := by
  have sx : SR 5 5 ((n : Rat) / d) := SR.of (by unfold Sz; omega) (by unfold Sz; omega) (by omega)
  have sy : SR 5 5 ((m : Rat) / c) := SR.of (by unfold Sz; omega) (by unfold Sz; omega) (by omega)
  have b1 := mb hn.1 hn.2 (B := 30000) (b := c) (by omega) hc.2
  have b2 := mb hm.1 hm.2 (B := 30000) (b := d) (by omega) hd.2
  have b3 := mb (A := 30000) (a := d) (by omega) hd.2 (B := 30000) (b := c) (by omega) hc.2
  have b4 := mb hn.1 hn.2 hm.1 hm.2
  have b5 := mb (A := 30000) (a := d) (by omega) hd.2 hm.1 hm.2
  have hdc : d * c ≠ 0 := Int.mul_ne_zero (by omega) (by omega)
  refine ⟨(n : Rat) / d, (m : Rat) / c, _, _, _, (n : Rat) / d / ((m : Rat) / c), _, sx.rb (by decide) (by decide), sy.rb (by decide) (by decide), if_neg (by omega), if_neg (by omega), qadd_ok sx sy (k := 10) (by decide) (by decide) (by decide) (by decide), qsub_ok sx sy (k := 10) (by decide) (by decide) (by decide) (by decide), qmul_ok sx sy (by decide) (by decide), rfl, ?_, ?_, ?_, ?_, ?_, ?_, ?_, ?_, ?_⟩
  · intro h
    have : divQ ((n : Rat) / d) ((m : Rat) / c) = rBad := by
      unfold divQ
      rw [if_neg]
      intro hh
      exact hh.2 (by rw [h]; grind)
    rw [this]; exact ⟨rfl, rfl, rfl⟩
  · intro h; rw [qdiv_ok sx sy (f_ne (by omega) h) (by decide) (by decide)]; exact ⟨rfl, rfl, rfl⟩
  · exact .of (f_add (by omega) (by omega)) hdc (by omega) (by omega)
  · exact .of (f_sub (by omega) (by omega)) hdc (by omega) (by omega)
  · exact .of (f_mul (by omega) (by omega)) hdc (by omega) (by omega)
  · intro h; exact .of (f_div (by omega) (by omega) h) (Int.mul_ne_zero (by omega) h) (by omega) (by omega)
  · intro h; exact cmpQ_lt (f_lt (by omega) (by omega) h)
  · intro h; exact cmpQ_gt (f_lt (by omega) (by omega) h)
  · intro h; exact cmpQ_eq (f_eq (by omega) (by omega) h)
theorem qBad {a b : List UInt8} (h : a = [] ∧ b = []) : (a == [] && b == []) = true := by rw [h.1, h.2]; rfl
theorem bdP4 {x0 x1 x2 x3 x4 x5 x6 x7 : Int} {w : World} {K : Value → World → Prop} (hk : K (.agg #[.int .i64 x0, .int .i64 x1, .int .i64 x2, .int .i64 x3, .int .i64 x4, .int .i64 x5, .int .i64 x6, .int .i64 x7]) w) :
    Bd Tryz.prog 57 [(0, .agg #[.int .i64 x0, .int .i64 x1]), (1, .agg #[.int .i64 x2, .int .i64 x3]), (2, .agg #[.int .i64 x4, .int .i64 x5]), (3, .agg #[.int .i64 x6, .int .i64 x7])] w K := by
  rw [Bd_x]
  have hr : (Instr.build 57 [(0, (.agg #[.int .i64 x0, .int .i64 x1] : Value)), (1, .agg #[.int .i64 x2, .int .i64 x3]), (2, .agg #[.int .i64 x4, .int .i64 x5]), (3, .agg #[.int .i64 x6, .int .i64 x7])].toArray).run Tryz.prog w = .ok (.agg #[.int .i64 x0, .int .i64 x1, .int .i64 x2, .int .i64 x3, .int .i64 x4, .int .i64 x5, .int .i64 x6, .int .i64 x7]) w := run_build w _ _ _ (by kernel_rfl)
  rw [hr]
  exact hk
set_option maxHeartbeats 4000000 in
theorem i_Machine {a0 a1 a2 a3 : Int} {w : World} (r0 : R64 a0) (r1 : R64 a1) (r2 : R64 a2) (r3 : R64 a3) (hT : Tab w) (hM : MaxV w) :
    Calls Tryz.prog 7 #[.int .i64 a0, .int .i64 a1, .int .i64 a2, .int .i64 a3] w (Ret fun r w' => Ext w w' ∧ r = .bool true) := by
  have p0 := fun w : World => c_pick (w := w) r0.1 r0.2 (n := 60001) (by decide)
  have p2 := fun w : World => c_pick (w := w) r2.1 r2.2 (n := 60001) (by decide)
  have p1 := fun w : World => c_pick (w := w) r1.1 r1.2 (n := 30000) (by decide)
  have p3 := fun w : World => c_pick (w := w) r3.1 r3.2 (n := 30000) (by decide)
  have d0 := pickZ_bd (c := a0) (n := 60001) (by decide)
  have d2 := pickZ_bd (c := a2) (n := 60001) (by decide)
  have d1 := pickZ_bd (c := a1) (n := 30000) (by decide)
  have d3 := pickZ_bd (c := a3) (n := 30000) (by decide)
  obtain ⟨n, hn⟩ : ∃ n, n = pickZ a0 60001 - 30000 := ⟨_, rfl⟩
  obtain ⟨m, hm⟩ : ∃ n, n = pickZ a2 60001 - 30000 := ⟨_, rfl⟩
  obtain ⟨d, hd⟩ : ∃ n, n = 1 + pickZ a1 30000 := ⟨_, rfl⟩
  obtain ⟨c, hc⟩ : ∃ n, n = 1 + pickZ a3 30000 := ⟨_, rfl⟩
  have sn : ∀ {w : World} {K : Value → World → Prop}, K (.int .i64 n) w → Bn Tryz.prog .sub 3 true (.int .i64 (pickZ a0 60001)) (.int .i64 30000) w K := fun h => Bn_su (by omega) (by omega) (hn ▸ h)
  have sm : ∀ {w : World} {K : Value → World → Prop}, K (.int .i64 m) w → Bn Tryz.prog .sub 3 true (.int .i64 (pickZ a2 60001)) (.int .i64 30000) w K := fun h => Bn_su (by omega) (by omega) (hm ▸ h)
  have sd : ∀ {w : World} {K : Value → World → Prop}, K (.int .i64 d) w → Bn Tryz.prog .add 3 true (.int .i64 1) (.int .i64 (pickZ a1 30000)) w K := fun h => Bn_ad (by omega) (by omega) (hd ▸ h)
  have sc : ∀ {w : World} {K : Value → World → Prop}, K (.int .i64 c) w → Bn Tryz.prog .add 3 true (.int .i64 1) (.int .i64 (pickZ a3 30000)) w K := fun h => Bn_ad (by omega) (by omega) (hc ▸ h)
  have en : -30000 ≤ n ∧ n ≤ 30000 := by omega
  have em : -30000 ≤ m ∧ m ≤ 30000 := by omega
  have ed : 1 ≤ d ∧ d ≤ 30000 := by omega
  have ec : 1 ≤ c ∧ c ≤ 30000 := by omega
  clear hn hm hd hc d0 d1 d2 d3
  obtain ⟨x, y, q0, q1, q2, q3, D, hx, hy, ea, eb, e0, e1, e2, e3, D0, D1, f0, f1, f2, f3, g0, g1, g2⟩ := machF en ed em ec
  have lx := rb_len hx
  have ly := rb_len hy
  have cO1 : ∀ w : World, Tab w → Calls Tryz.prog 41 #[.int .i64 n, .int .i64 d] w (Ret fun r w' => Ext w w' ∧ r = .tuple #[.agg #[str (Lib.itoa x.num), str (Lib.itoa (x.den : Int))], .int .i64 0]) := by
    intro w hT
    have := c_Of (w := w) hT (x := n) (y := d) (by omega) (by omega) (by omega) (by omega)
    rw [ea] at this; exact this
  have cO2 : ∀ w : World, Tab w → Calls Tryz.prog 41 #[.int .i64 m, .int .i64 c] w (Ret fun r w' => Ext w w' ∧ r = .tuple #[.agg #[str (Lib.itoa y.num), str (Lib.itoa (y.den : Int))], .int .i64 0]) := by
    intro w hT
    have := c_Of (w := w) hT (x := m) (y := c) (by omega) (by omega) (by omega) (by omega)
    rw [eb] at this; exact this
  have q4 : ∀ w : World, Tab w → Calls Tryz.prog 29 #[.agg #[str (Lib.itoa x.num), str (Lib.itoa (x.den : Int))], .agg #[str (Lib.itoa y.num), str (Lib.itoa (y.den : Int))]] w (Ret fun r w' => Ext w w' ∧ r = .tuple #[.agg #[str (Lib.itoa q0.num), str (Lib.itoa (q0.den : Int)), str (Lib.itoa q1.num), str (Lib.itoa (q1.den : Int)), str (Lib.itoa q2.num), str (Lib.itoa (q2.den : Int)), str D.1, str D.2.1], .agg #[.int .i64 0, .int .i64 0, .int .i64 0, .int .i64 D.2.2]]) := by
    intro w hT
    exact k_four (w := w) lx ly ((ans2_ok hx hy).trans e0).symm ((ans2_ok hx hy).trans e1).symm ((ans2_ok hx hy).trans e2).symm ((ans2_ok hx hy).trans e3).symm hT
  have qc : ∀ w : World, Tab w → Calls Tryz.prog 23 #[.agg #[str (Lib.itoa x.num), str (Lib.itoa (x.den : Int))], .agg #[str (Lib.itoa y.num), str (Lib.itoa (y.den : Int))]] w (Ret fun r w' => Ext w w' ∧ r = .int .i64 (cmpQ x y)) := fun w hT => k_cmpq hx hy hT
  have b1 := mb en.1 en.2 (B := 30000) (b := c) (by omega) ec.2
  have b2 := mb em.1 em.2 (B := 30000) (b := d) (by omega) ed.2
  have b3 := mb (A := 30000) (a := d) (by omega) ed.2 (B := 30000) (b := c) (by omega) ec.2
  have b4 := mb en.1 en.2 em.1 em.2
  have b5 := mb (A := 30000) (a := d) (by omega) ed.2 em.1 em.2
  have snc : ∀ {t : TypeId} {u : Bool} {w : World} {K : Value → World → Prop}, K (.int .i64 (n * c)) w → Bn Tryz.prog .mul t u (.int .i64 n) (.int .i64 c) w K := fun h => Bn_mu (by omega) (by omega) h
  have smd : ∀ {t : TypeId} {u : Bool} {w : World} {K : Value → World → Prop}, K (.int .i64 (m * d)) w → Bn Tryz.prog .mul t u (.int .i64 m) (.int .i64 d) w K := fun h => Bn_mu (by omega) (by omega) h
  have sdc : ∀ {t : TypeId} {u : Bool} {w : World} {K : Value → World → Prop}, K (.int .i64 (d * c)) w → Bn Tryz.prog .mul t u (.int .i64 d) (.int .i64 c) w K := fun h => Bn_mu (by omega) (by omega) h
  have snm : ∀ {t : TypeId} {u : Bool} {w : World} {K : Value → World → Prop}, K (.int .i64 (n * m)) w → Bn Tryz.prog .mul t u (.int .i64 n) (.int .i64 m) w K := fun h => Bn_mu (by omega) (by omega) h
  have sdm : ∀ {t : TypeId} {u : Bool} {w : World} {K : Value → World → Prop}, K (.int .i64 (d * m)) w → Bn Tryz.prog .mul t u (.int .i64 d) (.int .i64 m) w K := fun h => Bn_mu (by omega) (by omega) h
  have sp : ∀ {t : TypeId} {u : Bool} {w : World} {K : Value → World → Prop}, K (.int .i64 (n * c + m * d)) w → Bn Tryz.prog .add t u (.int .i64 (n * c)) (.int .i64 (m * d)) w K := fun h => Bn_ad (by omega) (by omega) h
  have ss : ∀ {t : TypeId} {u : Bool} {w : World} {K : Value → World → Prop}, K (.int .i64 (n * c - m * d)) w → Bn Tryz.prog .sub t u (.int .i64 (n * c)) (.int .i64 (m * d)) w K := fun h => Bn_su (by omega) (by omega) h
  clear lx ly ea eb e0 e1 e2 e3 hx hy b1 b2 b3 b4 b5 en em ed ec
  apply e_law04_RationalMachine
  unfold s_law04_RationalMachine
  refine Cl1 n_law04_sane (c_sane hT hM) fun w1 x1 => ?_
  have xx := x1
  refine Cl1 n_law04_pick (p0 _) fun w2 x2 => ?_
  replace xx := xx.tr x2
  refine sn ?_
  refine Cl1 n_law04_pick (p2 _) fun w3 x3 => ?_
  replace xx := xx.tr x3
  refine sm ?_
  refine Cl1 n_law04_pick (p1 _) fun w4 x4 => ?_
  replace xx := xx.tr x4
  refine sd ?_
  refine Cl1 n_law04_pick (p3 _) fun w5 x5 => ?_
  replace xx := xx.tr x5
  refine sc ?_
  refine Cl2 n_rational_Of (cO1 _ (hT.ext xx)) fun w6 x6 => ?_
  replace xx := xx.tr x6
  refine alR fun g10 w7 x7 hg10 hl10 b10 => ?_
  have k10 : w.heap.size ≤ g10 := by have := xx.size; omega
  replace xx := xx.tr x7
  clear hg10 hl10
  refine stoR b10 fun w8 o8 b10 => ?_
  replace xx := o8.ext xx k10
  refine Cl2 n_rational_Of (cO2 _ (hT.ext xx)) fun w9 x9 => ?_
  replace b10 := b10.ext x9
  replace xx := xx.tr x9
  have z10 := b10.lt
  refine alR fun g12 w10 x10 hg12 hl12 b12 => ?_
  have k12 : w.heap.size ≤ g12 := by have := xx.size; omega
  have n10x12 : g10 ≠ g12 := by omega
  clear z10
  replace b10 := b10.ext x10
  replace xx := xx.tr x10
  clear hg12 hl12
  refine stoR b12 fun w11 o11 b12 => ?_
  replace b10 := blkOwn b10 n10x12 o11
  replace xx := o11.ext xx k12
  refine ldR b10 (ldR b12 ?_)
  refine Cl2 n_law04_four (q4 _ (hT.ext xx)) fun w12 x12 => ?_
  replace b10 := b10.ext x12
  replace b12 := b12.ext x12
  replace xx := xx.tr x12
  have z10 := b10.lt
  have z12 := b12.lt
  refine alR4 fun g14 w13 x13 hg14 hl14 b14 => ?_
  have k14 : w.heap.size ≤ g14 := by have := xx.size; omega
  have n10x14 : g10 ≠ g14 := by omega
  clear z10
  have n12x14 : g12 ≠ g14 := by omega
  clear z12
  replace b10 := b10.ext x13
  replace b12 := b12.ext x13
  replace xx := xx.tr x13
  clear hg14 hl14
  have z10 := b10.lt
  have z12 := b12.lt
  have z14 := b14.lt
  refine alE4 fun g15 w14 x14 hg15 hl15 b15 => ?_
  have k15 : w.heap.size ≤ g15 := by have := xx.size; omega
  have n10x15 : g10 ≠ g15 := by omega
  clear z10
  have n12x15 : g12 ≠ g15 := by omega
  clear z12
  have n14x15 : g14 ≠ g15 := by omega
  clear z14
  replace b10 := b10.ext x14
  replace b12 := b12.ext x14
  replace b14 := b14.ext x14
  replace xx := xx.tr x14
  clear hg15 hl15
  refine stR4 b14 fun w15 o15 b14 => ?_
  replace b10 := blkOwn b10 n10x14 o15
  replace b12 := blkOwn b12 n12x14 o15
  replace b15 := blkOwn b15 n14x15.symm o15
  replace xx := o15.ext xx k14
  refine stE4 b15 fun w16 o16 b15 => ?_
  replace b10 := blkOwn b10 n10x15 o16
  replace b12 := blkOwn b12 n12x15 o16
  replace b14 := blkOwn b14 n14x15 o16
  replace xx := o16.ext xx k15
  refine snc (smd (sp (sdc (bdI2 ?_))))
  refine snc (smd (ss (sdc (bdI2 ?_))))
  refine snm (sdc (bdI2 ?_))
  refine snc (sdm (bdI2 (bdP4 ?_)))
  have z10 := b10.lt
  have z12 := b12.lt
  have z14 := b14.lt
  have z15 := b15.lt
  refine alP4 fun g16 w17 x17 hg16 hl16 b16 => ?_
  have k16 : w.heap.size ≤ g16 := by have := xx.size; omega
  have n10x16 : g10 ≠ g16 := by omega
  clear z10
  have n12x16 : g12 ≠ g16 := by omega
  clear z12
  have n14x16 : g14 ≠ g16 := by omega
  clear z14
  have n15x16 : g15 ≠ g16 := by omega
  clear z15
  replace b10 := b10.ext x17
  replace b12 := b12.ext x17
  replace b14 := b14.ext x17
  replace b15 := b15.ext x17
  replace xx := xx.tr x17
  clear hg16 hl16
  refine stP4 b16 fun w18 o18 b16 => ?_
  replace b10 := blkOwn b10 n10x16 o18
  replace b12 := blkOwn b12 n12x16 o18
  replace b14 := blkOwn b14 n14x16 o18
  replace b15 := blkOwn b15 n15x16 o18
  replace xx := o18.ext xx k16
  refine Lp1.mk (fun v W => (v = .int .i64 0 ∨ v = .int .i64 1 ∨ v = .int .i64 2 ∨ v = .int .i64 3 ∨ v = .int .i64 4) ∧ Ext w W ∧ Blk W g10 tR [str (Lib.itoa x.num), str (Lib.itoa (x.den : Int))] ∧ Blk W g12 tR [str (Lib.itoa y.num), str (Lib.itoa (y.den : Int))] ∧ Blk W g14 49 [str (Lib.itoa q0.num), str (Lib.itoa (q0.den : Int)), str (Lib.itoa q1.num), str (Lib.itoa (q1.den : Int)), str (Lib.itoa q2.num), str (Lib.itoa (q2.den : Int)), str D.1, str D.2.1] ∧ Blk W g15 50 [.int .i64 0, .int .i64 0, .int .i64 0, .int .i64 D.2.2] ∧ Blk W g16 57 [.int .i64 (n * c + m * d), .int .i64 (d * c), .int .i64 (n * c - m * d), .int .i64 (d * c), .int .i64 (n * m), .int .i64 (d * c), .int .i64 (n * c), .int .i64 (d * m)]) (fun i _ => match i with | .int _ i' => 4 - i'.toNat | _ => 0) ⟨.inl rfl, xx, b10, b12, b14, b15, b16⟩ ?_
  clear xx b10 b12 b14 b15 b16
  rintro _ W ⟨rfl | rfl | rfl | rfl | rfl, xx, b10, b12, b14, b15, b16⟩
  · refine Bn_ltT (by decide) (If_T (Bn_eqF (by decide) (Gd_FT (Gd_FT (Pick_F (If_F ?_))))))
    refine iaR4x0 (mF0 (lS8x0 b14 ?_))
    refine Cl2 n_ref03_ToInt (k_toInt f0.n) fun w19 x19 => ?_
    replace b10 := b10.ext x19
    replace b12 := b12.ext x19
    replace b14 := b14.ext x19
    replace b15 := b15.ext x19
    replace b16 := b16.ext x19
    replace xx := xx.tr x19
    refine iaR4x0 (mF1 (lS8x1 b14 ?_))
    refine Cl2 n_ref03_ToInt (k_toInt f0.d) fun w20 x20 => ?_
    replace b10 := b10.ext x20
    replace b12 := b12.ext x20
    replace b14 := b14.ext x20
    replace b15 := b15.ext x20
    replace b16 := b16.ext x20
    replace xx := xx.tr x20
    refine daE4x0 (dE4x0 (w := w20.drew) b15 (Dv_neF rfl (GdP_F (GdP_F (Dv_neF rfl (PickP_F ?_))))))
    refine GdP_F (GdP_F (Dv_neF rfl (PickP_F (GdP_F (GdP_F (Dv_ltF f0.p (PickP_F ?_)))))))
    refine GdP_F (GdP_F (GdP_F (daP4x0 (GdP_F (daI2x1 (GdP_F (dI8x1 (w := w20.drew) b16 (GdP_F (Dv_mu f0.m1.1 f0.m1.2 ?_)))))))))
    refine GdP_F (GdP_F (daP4x0 (GdP_F (daI2x0 (GdP_F (dI8x0 (w := w20.drew) b16 (GdP_F (GdP_F (Dv_mu f0.m2.1 f0.m2.2 ?_)))))))))
    refine GdP_F (Dv_neF f0.e (PickP_F (GdP_F (GdP_F (daR4x0 (GdP_F (dR8x0 (w := w20.drew) b14 (Gd_F ?_))))))))
    refine Cl1 n_rational_Valid (k_valq f0.rb (hT.ext xx.dr)) fun w21 x21 => ?_
    replace x21 : Ext w20 w21 := (Ext.refl w20).dr.tr x21
    replace b10 := b10.ext x21
    replace b12 := b12.ext x21
    replace b14 := b14.ext x21
    replace b15 := b15.ext x21
    replace b16 := b16.ext x21
    replace xx := xx.tr x21
    refine GdP_F (Dv_nT (PickP_F (If_F (Bn_ad (by decide) (by decide) ?_))))
    exact ⟨⟨.inr (.inl rfl), xx, b10, b12, b14, b15, b16⟩, by show 4 - Int.toNat (0 + 1) < 4 - Int.toNat 0; decide⟩
  · refine Bn_ltT (by decide) (If_T (Bn_eqF (by decide) (Gd_FT (Gd_FT (Pick_F (If_F ?_))))))
    refine iaR4x1 (mF0 (lS8x2 b14 ?_))
    refine Cl2 n_ref03_ToInt (k_toInt f1.n) fun w22 x22 => ?_
    replace b10 := b10.ext x22
    replace b12 := b12.ext x22
    replace b14 := b14.ext x22
    replace b15 := b15.ext x22
    replace b16 := b16.ext x22
    replace xx := xx.tr x22
    refine iaR4x1 (mF1 (lS8x3 b14 ?_))
    refine Cl2 n_ref03_ToInt (k_toInt f1.d) fun w23 x23 => ?_
    replace b10 := b10.ext x23
    replace b12 := b12.ext x23
    replace b14 := b14.ext x23
    replace b15 := b15.ext x23
    replace b16 := b16.ext x23
    replace xx := xx.tr x23
    refine daE4x1 (dE4x1 (w := w23.drew) b15 (Dv_neF rfl (GdP_F (GdP_F (Dv_neF rfl (PickP_F ?_))))))
    refine GdP_F (GdP_F (Dv_neF rfl (PickP_F (GdP_F (GdP_F (Dv_ltF f1.p (PickP_F ?_)))))))
    refine GdP_F (GdP_F (GdP_F (daP4x1 (GdP_F (daI2x1 (GdP_F (dI8x3 (w := w23.drew) b16 (GdP_F (Dv_mu f1.m1.1 f1.m1.2 ?_)))))))))
    refine GdP_F (GdP_F (daP4x1 (GdP_F (daI2x0 (GdP_F (dI8x2 (w := w23.drew) b16 (GdP_F (GdP_F (Dv_mu f1.m2.1 f1.m2.2 ?_)))))))))
    refine GdP_F (Dv_neF f1.e (PickP_F (GdP_F (GdP_F (daR4x1 (GdP_F (dR8x2 (w := w23.drew) b14 (Gd_F ?_))))))))
    refine Cl1 n_rational_Valid (k_valq f1.rb (hT.ext xx.dr)) fun w24 x24 => ?_
    replace x24 : Ext w23 w24 := (Ext.refl w23).dr.tr x24
    replace b10 := b10.ext x24
    replace b12 := b12.ext x24
    replace b14 := b14.ext x24
    replace b15 := b15.ext x24
    replace b16 := b16.ext x24
    replace xx := xx.tr x24
    refine GdP_F (Dv_nT (PickP_F (If_F (Bn_ad (by decide) (by decide) ?_))))
    exact ⟨⟨.inr (.inr (.inl rfl)), xx, b10, b12, b14, b15, b16⟩, by show 4 - Int.toNat (1 + 1) < 4 - Int.toNat 1; decide⟩
  · refine Bn_ltT (by decide) (If_T (Bn_eqF (by decide) (Gd_FT (Gd_FT (Pick_F (If_F ?_))))))
    refine iaR4x2 (mF0 (lS8x4 b14 ?_))
    refine Cl2 n_ref03_ToInt (k_toInt f2.n) fun w25 x25 => ?_
    replace b10 := b10.ext x25
    replace b12 := b12.ext x25
    replace b14 := b14.ext x25
    replace b15 := b15.ext x25
    replace b16 := b16.ext x25
    replace xx := xx.tr x25
    refine iaR4x2 (mF1 (lS8x5 b14 ?_))
    refine Cl2 n_ref03_ToInt (k_toInt f2.d) fun w26 x26 => ?_
    replace b10 := b10.ext x26
    replace b12 := b12.ext x26
    replace b14 := b14.ext x26
    replace b15 := b15.ext x26
    replace b16 := b16.ext x26
    replace xx := xx.tr x26
    refine daE4x2 (dE4x2 (w := w26.drew) b15 (Dv_neF rfl (GdP_F (GdP_F (Dv_neF rfl (PickP_F ?_))))))
    refine GdP_F (GdP_F (Dv_neF rfl (PickP_F (GdP_F (GdP_F (Dv_ltF f2.p (PickP_F ?_)))))))
    refine GdP_F (GdP_F (GdP_F (daP4x2 (GdP_F (daI2x1 (GdP_F (dI8x5 (w := w26.drew) b16 (GdP_F (Dv_mu f2.m1.1 f2.m1.2 ?_)))))))))
    refine GdP_F (GdP_F (daP4x2 (GdP_F (daI2x0 (GdP_F (dI8x4 (w := w26.drew) b16 (GdP_F (GdP_F (Dv_mu f2.m2.1 f2.m2.2 ?_)))))))))
    refine GdP_F (Dv_neF f2.e (PickP_F (GdP_F (GdP_F (daR4x2 (GdP_F (dR8x4 (w := w26.drew) b14 (Gd_F ?_))))))))
    refine Cl1 n_rational_Valid (k_valq f2.rb (hT.ext xx.dr)) fun w27 x27 => ?_
    replace x27 : Ext w26 w27 := (Ext.refl w26).dr.tr x27
    replace b10 := b10.ext x27
    replace b12 := b12.ext x27
    replace b14 := b14.ext x27
    replace b15 := b15.ext x27
    replace b16 := b16.ext x27
    replace xx := xx.tr x27
    refine GdP_F (Dv_nT (PickP_F (If_F (Bn_ad (by decide) (by decide) ?_))))
    exact ⟨⟨.inr (.inr (.inr (.inl rfl))), xx, b10, b12, b14, b15, b16⟩, by show 4 - Int.toNat (2 + 1) < 4 - Int.toNat 2; decide⟩
  · refine Bn_ltT (by decide) (If_T (Bn_eqT rfl (Gd_T (Gd_T ?_))))
    by_cases hm : m = 0
    · refine Bn_eqT hm (Pick_T (If_T ?_))
      have hD := D0 hm
      have c1 := b14
      have c2 := b15
      rw [hD.1, hD.2.1] at c1
      rw [hD.2.2] at c2
      refine iaE4x3 (lE4x3 c2 (Bn_neF rfl (Gd_F (Gd_F (iaR4x3 (Gd_F (lR8x6 c1 (Gd_F (bdR0 (Gd_F (qNeF (same2 _ _) (Pick_F (If_F (Bn_ad (by decide) (by decide) ?_))))))))))))))
      exact ⟨⟨.inr (.inr (.inr (.inr rfl))), xx, b10, b12, b14, b15, b16⟩, by show 4 - Int.toNat (3 + 1) < 4 - Int.toNat 3; decide⟩
    · refine Bn_eqF (by omega) (Pick_T (If_F ?_))
      have hD := D1 hm
      have h3 := f3 hm
      rw [hD.1, hD.2.1] at b14
      rw [hD.2.2] at b15
      refine iaR4x3 (mF0 (lS8x6 b14 ?_))
      refine Cl2 n_ref03_ToInt (k_toInt h3.n) fun w28 x28 => ?_
      replace b10 := b10.ext x28
      replace b12 := b12.ext x28
      replace b14 := b14.ext x28
      replace b15 := b15.ext x28
      replace b16 := b16.ext x28
      replace xx := xx.tr x28
      refine iaR4x3 (mF1 (lS8x7 b14 ?_))
      refine Cl2 n_ref03_ToInt (k_toInt h3.d) fun w29 x29 => ?_
      replace b10 := b10.ext x29
      replace b12 := b12.ext x29
      replace b14 := b14.ext x29
      replace b15 := b15.ext x29
      replace b16 := b16.ext x29
      replace xx := xx.tr x29
      refine daE4x3 (dE4x3 (w := w29.drew) b15 (Dv_neF rfl (GdP_F (GdP_F (Dv_neF rfl (PickP_F ?_))))))
      refine GdP_F (GdP_F (Dv_neF rfl (PickP_F (GdP_F (GdP_F (Dv_ltF h3.p (PickP_F ?_)))))))
      refine GdP_F (GdP_F (GdP_F (daP4x3 (GdP_F (daI2x1 (GdP_F (dI8x7 (w := w29.drew) b16 (GdP_F (Dv_mu h3.m1.1 h3.m1.2 ?_)))))))))
      refine GdP_F (GdP_F (daP4x3 (GdP_F (daI2x0 (GdP_F (dI8x6 (w := w29.drew) b16 (GdP_F (GdP_F (Dv_mu h3.m2.1 h3.m2.2 ?_)))))))))
      refine GdP_F (Dv_neF h3.e (PickP_F (GdP_F (GdP_F (daR4x3 (GdP_F (dR8x6 (w := w29.drew) b14 (Gd_F ?_))))))))
      refine Cl1 n_rational_Valid (k_valq h3.rb (hT.ext xx.dr)) fun w30 x30 => ?_
      replace x30 : Ext w29 w30 := (Ext.refl w29).dr.tr x30
      replace b10 := b10.ext x30
      replace b12 := b12.ext x30
      replace b14 := b14.ext x30
      replace b15 := b15.ext x30
      replace b16 := b16.ext x30
      replace xx := xx.tr x30
      refine GdP_F (Dv_nT (PickP_F (If_F (Bn_ad (by decide) (by decide) ?_))))
      exact ⟨⟨.inr (.inr (.inr (.inr rfl))), xx, b10, b12, by rw [hD.1, hD.2.1]; exact b14, by rw [hD.2.2]; exact b15, b16⟩, by show 4 - Int.toNat (3 + 1) < 4 - Int.toNat 3; decide⟩
  · refine Bn_ltF (by decide) (If_F ?_)
    refine Jn1.mk ?_
    intro K hK
    have main : K (.int .i64 (cmpQ x y)) W := by
      refine hK _ W ?_
      clear hK
      refine Gd_T (Gd_T (Bn_eqT rfl (Pick_T (Gd_T (Gd_T (Bn_eqT rfl (Pick_T ?_)))))))
      refine Gd_T (ldR b10 (Gd_T (ldR b12 (Gd_T ?_))))
      refine Cl1 n_rational_Compare (qc _ (hT.ext xx)) fun w31 x31 => ?_
      replace b10 := b10.ext x31
      replace b12 := b12.ext x31
      replace b14 := b14.ext x31
      replace b15 := b15.ext x31
      replace b16 := b16.ext x31
      replace xx := xx.tr x31
      refine Gd_T (Gd_T (Bn_eqT rfl (Pick_T ?_)))
      exact Ret.mk ⟨xx, rfl⟩
    refine snc (smd ?_)
    by_cases h1 : n * c < m * d
    · rw [g0 h1] at main
      exact Bn_ltT h1 (If_T main)
    · refine Bn_ltF (by omega) (If_F (snc (smd ?_)))
      by_cases h2 : m * d < n * c
      · rw [g1 h2] at main
        exact Bn_gtT h2 (If_T main)
      · rw [g2 (by omega)] at main
        exact Bn_gtF (by omega) (If_F main)
end Go.Proofs.YthpcmmfijelbaaaGreatDoor
