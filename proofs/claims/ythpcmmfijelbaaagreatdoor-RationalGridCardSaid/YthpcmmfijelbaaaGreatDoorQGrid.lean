/-
  Contracts of functions of the program, and plain lemmas on numbers and strings. By an AI agent.
-/
import Derived.Test.YthpcmmfijelbaaaGreatDoorQHelp
set_option linter.unusedSimpArgs false
set_option linter.unusedVariables false
set_option linter.unusedSectionVars false
namespace Go.Proofs.YthpcmmfijelbaaaGreatDoor
open Go Go.Eng Go.Proofs Go.Num Go.RowKit
set_option maxRecDepth 100000
set_option linter.unusedVariables false
set_option linter.unusedSectionVars false
theorem ten_Sz1 {k : Int} (h0 : 0 ≤ k) (h : k ≤ 30) : Sz 31 (ten k) := by
  unfold Sz ten
  rw [Int.natAbs_pow]
  exact Nat.pow_lt_pow_right (by decide) (by omega)
theorem div_of {p q e r : Int} (hq : 0 < q) (h : p = r + e * q) (h0 : 0 ≤ r) (h1 : r < q) : p / q = e := by
  rw [h, Int.add_mul_ediv_right _ _ (Int.ne_of_gt hq), Int.ediv_eq_zero_of_lt h0 h1, Int.zero_add]
theorem gN_f {x : Rat} {k : Int} : gridN false x k = (x.num * ten k) / (x.den : Int) := by unfold gridN; rw [if_neg (by simp)]
theorem gN_0 {x : Rat} {k : Int} {up : Bool} (h : (x.num * ten k) % (x.den : Int) = 0) : gridN up x k = (x.num * ten k) / (x.den : Int) := by unfold gridN; rw [if_neg (by simp [h])]
theorem gN_1 {x : Rat} {k : Int} (h : (x.num * ten k) % (x.den : Int) ≠ 0) : gridN true x k = (x.num * ten k) / (x.den : Int) + 1 := by unfold gridN; rw [if_pos ⟨rfl, h⟩]
theorem gN_Sz {x : Rat} {k : Int} {up : Bool} {a b : Nat} (hx : SR a b x) (h0 : 0 ≤ k) (h1 : k ≤ 30) : Sz (a + 32) (gridN up x k) := by
  have hp : Sz (a + 31) ((x.num * ten k) / (x.den : Int)) := (hx.1.mul (ten_Sz1 h0 h1)).ediv
  unfold gridN
  split
  · exact hp.add (.one (by omega))
  · exact hp.mono (by omega)
def gV (up : Bool) (k : Int) (x : Rat) : Rat := ((gridN up x k : Int) : Rat) / ((ten k : Int) : Rat)
theorem gV_SR {x : Rat} {k : Int} {up : Bool} {a b : Nat} (hx : SR a b x) (h0 : 0 ≤ k) (h1 : k ≤ 30) : SR (a + 32) 31 (gV up k x) := SR.of (gN_Sz hx h0 h1) (ten_Sz1 h0 h1) (ten_ne k)
theorem g_ok {x : Rat} {k : Int} {up : Bool} {a b : Nat} (hx : SR a b x) (h0 : 0 ≤ k) (h1 : k ≤ 30) (ha : a ≤ 160) : gridQ up k x = rQ (gV up k x) := by
  unfold gridQ
  rw [if_pos]
  · rfl
  · exact ⟨⟨h0, h1⟩, (hx.1.mul (ten_Sz1 h0 h1)).max (by omega), (gN_Sz hx h0 h1).max (by omega)⟩
theorem gV_mul (up : Bool) (k : Int) (x : Rat) : (gV up k x).num * ten k = gridN up x k * ((gV up k x).den : Int) :=
  rat_cross (Int.ne_of_gt (den_pos _)) (ten_ne k) (num_den' _)
theorem gN_gV (up u : Bool) (k : Int) (x : Rat) : gridN up (gV u k x) k = gridN u x k := by
  have e := gV_mul u k x
  rw [gN_0 (by rw [e]; exact Int.mul_emod_left _ _), e]
  exact Int.mul_ediv_cancel _ (Int.ne_of_gt (den_pos _))
theorem gV_gV (up u : Bool) (k : Int) (x : Rat) : gV up k (gV u k x) = gV u k x := by
  show ((gridN up (gV u k x) k : Int) : Rat) / ((ten k : Int) : Rat) = _
  rw [gN_gV]; rfl
theorem neg_e (x : Rat) : (0 - x).num = -x.num ∧ (0 - x).den = x.den := by
  have : 0 - x = -x := by grind
  rw [this]; exact ⟨Rat.neg_num x, Rat.neg_den x⟩
theorem gN_neg (x : Rat) (k : Int) : gridN false (0 - x) k = - gridN true x k := by
  obtain ⟨e1, e2⟩ := neg_e x
  have hq := den_pos x
  rw [gN_f, e1, e2, Int.neg_mul]
  have hd := Int.emod_add_mul_ediv (x.num * ten k) (x.den : Int)
  have h0 := Int.emod_nonneg (x.num * ten k) (Int.ne_of_gt hq)
  have h1 := Int.emod_lt_of_pos (x.num * ten k) hq
  rw [Int.mul_comm (x.den : Int) (x.num * ten k / (x.den : Int))] at hd
  by_cases h : (x.num * ten k) % (x.den : Int) = 0
  · rw [gN_0 h]
    refine div_of hq (r := 0) ?_ (Int.le_refl _) hq
    rw [Int.neg_mul]; omega
  · rw [gN_1 h]
    refine div_of hq (r := (x.den : Int) - (x.num * ten k) % (x.den : Int)) ?_ (by omega) (by omega)
    rw [Int.neg_mul, Int.add_mul]; omega
theorem gV_neg (x : Rat) (k : Int) : 0 - gV false k (0 - x) = gV true k x := by
  unfold gV
  rw [gN_neg, Rat.intCast_neg]
  grind
theorem g_lt {n d m c : Int} (hd : 0 < d) (hc : 0 < c) (h : n * c < m * d) : (n : Rat) / d < (m : Rat) / c := by
  have h1 : (0 : Rat) < d := by exact_mod_cast hd
  have h2 : (0 : Rat) < c := by exact_mod_cast hc
  have h3 : (n : Rat) * c < (m : Rat) * d := by exact_mod_cast h
  rw [Rat.div_lt_iff h1]
  have e : (m : Rat) / c * d = (m * d) / c := by grind
  rw [e, Rat.lt_div_iff h2]
  exact h3
section
variable {x : Rat} {k : Int}
theorem g_ex (h : (x.num * ten k) % (x.den : Int) = 0) (up : Bool) : gV up k x = x := by
  have hd := Int.emod_add_mul_ediv (x.num * ten k) (x.den : Int)
  unfold gV
  rw [gN_0 h]
  refine (cross_rat (ten_ne k) (Int.ne_of_gt (den_pos x)) ?_).trans (num_den' x)
  rw [Int.mul_comm]; omega
theorem g_lo (h : (x.num * ten k) % (x.den : Int) ≠ 0) : gV false k x < x := by
  have hd := Int.emod_add_mul_ediv (x.num * ten k) (x.den : Int)
  have h0 := Int.emod_nonneg (x.num * ten k) (Int.ne_of_gt (den_pos x))
  have : gV false k x < (x.num : Rat) / ((x.den : Int) : Rat) := by
    unfold gV
    rw [gN_f]
    refine g_lt (ten_pos k) (den_pos x) ?_
    rw [Int.mul_comm]; omega
  rw [num_den' x] at this; exact this
theorem g_hi (h : (x.num * ten k) % (x.den : Int) ≠ 0) : x < gV true k x := by
  have hd := Int.emod_add_mul_ediv (x.num * ten k) (x.den : Int)
  have h1 := Int.emod_lt_of_pos (x.num * ten k) (den_pos x)
  have : (x.num : Rat) / ((x.den : Int) : Rat) < gV true k x := by
    unfold gV
    rw [gN_1 h]
    refine g_lt (den_pos x) (ten_pos k) ?_
    rw [Int.add_mul, Int.mul_comm (x.num * ten k / _)]; omega
  rw [num_den' x] at this; exact this
theorem g_wid (h : (x.num * ten k) % (x.den : Int) ≠ 0) : rQ (gV true k x - gV false k x) = ([49], Lib.itoa (ten k), 0) := by
  have e : gV true k x - gV false k x = ((1 : Int) : Rat) / ((ten k : Int) : Rat) := by
    unfold gV
    rw [gN_1 h, gN_f, Rat.intCast_add]
    grind
  have hh : gridN true x k = gridN true x k := rfl
  have g1 : Int.gcd 1 (ten k) = 1 := by simp
  have := lo_of_fr (ten_pos k) g1
  have hq := lo_rat (n := 1) (ten_ne k)
  rw [e]
  unfold rQ
  rw [hq.1, hq.2, this.1, this.2, l1]
theorem g_mul (up : Bool) : gV up k x * ((ten k : Int) : Rat) = ((gridN up x k : Int) : Rat) := by
  have := int_ne (ten_ne k)
  unfold gV
  grind
end
theorem k_gd {up : Bool} {fn : FuncId} {k : Int} {x y : Rat} {a b : Nat} {w : World}
    (hc : ∀ {n d : List UInt8} {k : Int} {w : World}, n.length ≤ 1000000 → d.length ≤ 1000000 → Tab w → Calls Tryz.prog fn #[.agg #[str n, str d], .int .i64 k] w (Ret fun r w' => Ext w w' ∧ r = rv (ans1 (gridQ up k) rBad n d)))
    (hx : SR a b x) (ha : a ≤ 160) (hb : b ≤ 200) (h0 : 0 ≤ k) (h1 : k ≤ 30) (hy : gV up k x = y) (hT : Tab w) :
    Calls Tryz.prog fn #[fq x, .int .i64 k] w (Ret fun r w' => Ext w w' ∧ r = .tuple #[fq y, .int .i64 0]) := by
  have hr : RB x := hx.rb (by omega) hb
  have := hc (k := k) (rb_len hr).1 (rb_len hr).2 hT
  rw [ans1_ok hr, g_ok hx h0 h1 ha, hy] at this
  exact this
theorem k_ming {x y : Rat} {a b : Nat} {w : World} (hx : SR a b x) (ha : a ≤ 190) (hb : b ≤ 190) (hy : 0 - x = y) (hT : Tab w) :
    Calls Tryz.prog 45 #[fq x] w (Ret fun r w' => Ext w w' ∧ r = fq y) := by
  have hr : RB x := hx.rb (by omega) (by omega)
  have h00 : SR 1 1 (0 : Rat) := ⟨by unfold Sz; decide, by unfold Sz; decide⟩
  have z0 : Lib.itoa (0 : Rat).num = [48] := itoa_0
  have z1 : Lib.itoa (((0 : Rat).den : Nat) : Int) = [49] := l1
  have := c_lminus (w := w) (rb_len hr).1 (rb_len hr).2 hT
  rw [← z0, ← z1, ans2_ok rb0 hr, qsub_ok h00 hx (k := 199) (by omega) (by omega) (by decide) (by omega), hy] at this
  exact this
def gridFm (P : Program) (t1 t25 t27 : Value) (w : World) (R : Ending → World → Prop) : Prop :=
  Al P 23 w fun t6 w =>
  Sto P 23 t6 t27 w fun w =>
  Cl P 18 #[t1, (.int .i64 31)] w (Pk R) fun t29 w =>
  Lp2 (str [49]) (.int .i64 0) w (fun t7 t8 w k1 =>
  Bn P .lss 3 false t8 t29 w fun t32 w =>
  If t32
  (Bn P .add 9 true t7 (str [48]) w fun t36 w =>
  Bn P .add 3 true t8 (.int .i64 1) w fun t34 w =>
  k1 t36 t34 w)
  (Ld P 23 t6 w fun t38 w =>
  Cl P 35 #[t38, t29] w (Pk R) fun t40 w =>
  Ex t40 0 w fun t41 w =>
  Ex t40 1 w fun t42 w =>
  Al P 23 w fun t9 w =>
  Sto P 23 t9 t41 w fun w =>
  Ld P 23 t6 w fun t44 w =>
  Cl P 37 #[t44, t29] w (Pk R) fun t46 w =>
  Ex t46 0 w fun t47 w =>
  Ex t46 1 w fun t48 w =>
  Al P 23 w fun t11 w =>
  Sto P 23 t11 t47 w fun w =>
  Ld P 23 t6 w fun t50 w =>
  Cl P 45 #[t50] w (Pk R) fun t51 w =>
  Cl P 35 #[t51, t29] w (Pk R) fun t53 w =>
  Ex t53 0 w fun t54 w =>
  Ex t53 1 w fun t55 w =>
  Al P 23 w fun t13 w =>
  Sto P 23 t13 t54 w fun w =>
  Dv P true (bn .neq 30 true t42 (.int .i64 0)) w.drew fun t57 =>
  GdP t57 false (fun k => k t48) fun t59 =>
  GdP t57 false (fun k => Dv P true (bn .neq 30 true t59 (.int .i64 0)) w.drew k) fun t60 =>
  PickP t57 (.bool true) t60 fun t61 =>
  GdP t61 false (fun k => k t55) fun t63 =>
  GdP t61 false (fun k => Dv P true (bn .neq 30 true t63 (.int .i64 0)) w.drew k) fun t64 =>
  PickP t61 (.bool true) t64 fun t65 =>
  GdP t65 false (fun k => Dv P false (Instr.loadAt 23 t13) w.drew k) fun t67 =>
  GdP t65 false (fun k => Dv P false (Instr.loadAt 23 t11) w.drew k) fun t69 =>
  Gd t65 false (fun k => Cl P 45 #[t67] w.drew (Pk R) k) w.drew fun t68 w =>
  Kg t65 false P (Instr.loadAt 23 t11) t69 w <|
  GdP t65 false (fun k => Dv P false (bn .neq 23 false t68 t69) w k) fun t70 =>
  PickP t65 (.bool true) t70 fun t71 =>
  GdP t71 false (fun k => Dv P false (Instr.loadAt 23 t9) w k) fun t73 =>
  GdP t71 false (fun k => Dv P false (Instr.loadAt 23 t6) w k) fun t74 =>
  Gd t71 false (fun k => Cl P 23 #[t73, t74] w (Pk R) k) w fun t75 w =>
  GdP t71 false (fun k => Dv P true (bn .gtr 3 true t75 (.int .i64 0)) w k) fun t76 =>
  PickP t71 (.bool true) t76 fun t77 =>
  GdP t77 false (fun k => Dv P false (Instr.loadAt 23 t11) w k) fun t79 =>
  GdP t77 false (fun k => Dv P false (Instr.loadAt 23 t6) w k) fun t80 =>
  Gd t77 false (fun k => Cl P 23 #[t79, t80] w (Pk R) k) w fun t81 w =>
  GdP t77 false (fun k => Dv P true (bn .lss 3 true t81 (.int .i64 0)) w k) fun t82 =>
  PickP t77 (.bool true) t82 fun t83 =>
  If t83
  (R (.returned (.bool false)) w)
  (Ld P 23 t11 w fun t85 w =>
  Cl P 35 #[t85, t29] w (Pk R) fun t87 w =>
  Ex t87 0 w fun t88 w =>
  Ex t87 1 w fun t89 w =>
  Al P 23 w fun t15 w =>
  Sto P 23 t15 t88 w fun w =>
  Ld P 23 t9 w fun t91 w =>
  Cl P 37 #[t91, t29] w (Pk R) fun t93 w =>
  Ex t93 0 w fun t94 w =>
  Ex t93 1 w fun t95 w =>
  Al P 23 w fun t17 w =>
  Sto P 23 t17 t94 w fun w =>
  Jn2 (fun k2 =>
  Dv P false (Instr.loadAt 23 t9) w.drew fun t97 =>
  (Cl P 24 #[t7, (str [49])] w.drew (Pk R) fun t99 w =>
  Ke P (Instr.loadAt 23 t9) t97 w <|
  (Cl P 25 #[t97, t99] w (Pk R) fun t100 w =>
  ExP t100 0 fun t101 =>
  ExP t100 1 fun t102 =>
  Al P 23 w fun t19 w =>
  Ke P (Instr.loadAt 23 t9) t97 w <|
  Sto P 23 t19 t101 w fun w =>
  k2 t19 t102 w) ∧
  (Al P 23 w fun t19x1 w =>
  Ke P (Instr.loadAt 23 t9) t97 w <|
  Cl P 25 #[t97, t99] w (Pk R) fun t100x1 w =>
  ExP t100x1 0 fun t101x1 =>
  ExP t100x1 1 fun t102x1 =>
  Sto P 23 t19x1 t101x1 w fun w =>
  k2 t19x1 t102x1 w)) ∧
  (Al P 23 w.drew fun t19x2 w =>
  Ke P (Instr.loadAt 23 t9) t97 w <|
  Cl P 24 #[t7, (str [49])] w (Pk R) fun t99x1 w =>
  Ke P (Instr.loadAt 23 t9) t97 w <|
  Cl P 25 #[t97, t99x1] w (Pk R) fun t100x2 w =>
  ExP t100x2 0 fun t101x2 =>
  ExP t100x2 1 fun t102x2 =>
  Sto P 23 t19x2 t101x2 w fun w =>
  k2 t19x2 t102x2 w))
  (fun t19x3 t20 w =>
  Ld P 23 t11 w fun t104 w =>
  Ld P 23 t9 w fun t105 w =>
  Cl P 44 #[t104, t105] w (Pk R) fun t106 w =>
  Ex t106 0 w fun t107 w =>
  Ex t106 1 w fun t108 w =>
  Al P 23 w fun t21 w =>
  Sto P 23 t21 t107 w fun w =>
  Ld P 23 t9 w fun t109 w =>
  Ld P 23 t6 w fun t110 w =>
  Cl P 23 #[t109, t110] w (Pk R) fun t111 w =>
  Bn P .eql 3 true t111 (.int .i64 0) w fun t112 w =>
  Cl P 24 #[(str [49]), t7] w (Pk R) fun t114 w =>
  Al P 23 w fun t24 w =>
  Sto P 23 t24 t114 w fun w =>
  Jn0 (fun k3 =>
  Bn P .eql 3 true t29 (.int .i64 0) w fun t116 w =>
  If t116
  (Cl P 24 #[(str [49]), (str [49])] w (Pk R) fun t117 w =>
  Sto P 23 t24 t117 w fun w =>
  k3 w)
  (k3 w))
  (fun w =>
  Jn0 (fun k4 =>
  If t112
  (Cl P 24 #[(str [48]), (str [49])] w (Pk R) fun t119 w =>
  Sto P 23 t24 t119 w fun w =>
  k4 w)
  (k4 w))
  (fun w =>
  Gd t25 true (fun k => k t89 w) w fun t122 w =>
  Gd t25 true (fun k => Bn P .eql 30 true t122 (.int .i64 0) w k) w fun t123 w =>
  Pick t25 t123 (.bool false) w fun t124 w =>
  Gd t124 true (fun k => k t95 w) w fun t126 w =>
  Gd t124 true (fun k => Bn P .eql 30 true t126 (.int .i64 0) w k) w fun t127 w =>
  Pick t124 t127 (.bool false) w fun t128 w =>
  Gd t128 true (fun k => Ld P 23 t15 w k) w fun t130 w =>
  Gd t128 true (fun k => Ld P 23 t11 w k) w fun t131 w =>
  Gd t128 true (fun k => Bn P .eql 23 false t130 t131 w k) w fun t132 w =>
  Pick t128 t132 (.bool false) w fun t133 w =>
  Gd t133 true (fun k => Ld P 23 t17 w k) w fun t135 w =>
  Gd t133 true (fun k => Ld P 23 t9 w k) w fun t136 w =>
  Gd t133 true (fun k => Bn P .eql 23 false t135 t136 w k) w fun t137 w =>
  Pick t133 t137 (.bool false) w fun t138 w =>
  Gd t138 true (fun k => k t20 w) w fun t140 w =>
  Gd t138 true (fun k => Bn P .eql 30 true t140 (.int .i64 0) w k) w fun t141 w =>
  Pick t138 t141 (.bool false) w fun t142 w =>
  Gd t142 true (fun k => Fa P 23 t19x3 1 w k) w fun t144 w =>
  Gd t142 true (fun k => Ld P 9 t144 w k) w fun t145 w =>
  Gd t142 true (fun k => Bn P .eql 9 true t145 (str [49]) w k) w fun t146 w =>
  Pick t142 t146 (.bool false) w fun t147 w =>
  Gd t147 true (fun k => k t108 w) w fun t149 w =>
  Gd t147 true (fun k => Bn P .eql 30 true t149 (.int .i64 0) w k) w fun t150 w =>
  Pick t147 t150 (.bool false) w fun t151 w =>
  Gd t151 true (fun k => Ld P 23 t21 w k) w fun t153 w =>
  Gd t151 true (fun k => Ld P 23 t24 w k) w fun t154 w =>
  Gd t151 true (fun k => Bn P .eql 23 false t153 t154 w k) w fun t155 w =>
  Pick t151 t155 (.bool false) w fun t156 w =>
  Gd t156 true (fun k => k t112 w) w fun t158 w =>
  Gd t156 true (fun k => Ld P 23 t11 w k) w fun t159 w =>
  Gd t156 true (fun k => Ld P 23 t6 w k) w fun t160 w =>
  Gd t156 true (fun k => Cl P 23 #[t159, t160] w (Pk R) k) w fun t161 w =>
  Gd t156 true (fun k => Bn P .eql 3 true t161 (.int .i64 0) w k) w fun t162 w =>
  Gd t156 true (fun k => Bn P .eql 4 false t158 t162 w k) w fun t163 w =>
  Pick t156 t163 (.bool false) w fun t164 w =>
  R (.returned t164) w))))))
set_option maxHeartbeats 8000000 in
theorem grid_ex {pl cA cB : Int} {N : Nat} {xn xd An Ad Bn Bd nn nd Cn Cd T ln : List UInt8} {w W : World} (hB : Tryz.prog.underlying 4 = some .bool) (hN : N ≤ 30)
    (cp : ∀ (w : World), Tab w → Calls Tryz.prog 18 #[.int .i64 pl, .int .i64 31] w (Ret fun r w' => Ext w w' ∧ r = .int .i64 (N : Int)))
    (cD : ∀ (w : World), Tab w → Calls Tryz.prog 35 #[.agg #[str xn, str xd], .int .i64 (N : Int)] w (Ret fun r w' => Ext w w' ∧ r = .tuple #[.agg #[str An, str Ad], .int .i64 0]))
    (cU : ∀ (w : World), Tab w → Calls Tryz.prog 37 #[.agg #[str xn, str xd], .int .i64 (N : Int)] w (Ret fun r w' => Ext w w' ∧ r = .tuple #[.agg #[str Bn, str Bd], .int .i64 0]))
    (cm : ∀ (w : World), Tab w → Calls Tryz.prog 45 #[.agg #[str xn, str xd]] w (Ret fun r w' => Ext w w' ∧ r = .agg #[str nn, str nd]))
    (cDn : ∀ (w : World), Tab w → Calls Tryz.prog 35 #[.agg #[str nn, str nd], .int .i64 (N : Int)] w (Ret fun r w' => Ext w w' ∧ r = .tuple #[.agg #[str Cn, str Cd], .int .i64 0]))
    (cmc : ∀ (w : World), Tab w → Calls Tryz.prog 45 #[.agg #[str Cn, str Cd]] w (Ret fun r w' => Ext w w' ∧ r = .agg #[str Bn, str Bd]))
    (c1 : ∀ (w : World), Tab w → Calls Tryz.prog 23 #[.agg #[str An, str Ad], .agg #[str xn, str xd]] w (Ret fun r w' => Ext w w' ∧ r = .int .i64 cA))
    (c2 : ∀ (w : World), Tab w → Calls Tryz.prog 23 #[.agg #[str Bn, str Bd], .agg #[str xn, str xd]] w (Ret fun r w' => Ext w w' ∧ r = .int .i64 cB))
    (cDB : ∀ (w : World), Tab w → Calls Tryz.prog 35 #[.agg #[str Bn, str Bd], .int .i64 (N : Int)] w (Ret fun r w' => Ext w w' ∧ r = .tuple #[.agg #[str Bn, str Bd], .int .i64 0]))
    (cUA : ∀ (w : World), Tab w → Calls Tryz.prog 37 #[.agg #[str An, str Ad], .int .i64 (N : Int)] w (Ret fun r w' => Ext w w' ∧ r = .tuple #[.agg #[str An, str Ad], .int .i64 0]))
    (cM : ∀ (w : World), Tab w → Calls Tryz.prog 25 #[.agg #[str An, str Ad], .agg #[str T, str [49]]] w (Ret fun r w' => Ext w w' ∧ r = .tuple #[.agg #[str ln, str [49]], .int .i64 0]))
    (cS : ∀ (w : World), Tab w → Calls Tryz.prog 44 #[.agg #[str Bn, str Bd], .agg #[str An, str Ad]] w (Ret fun r w' => Ext w w' ∧ r = .tuple #[.agg #[str [48], str [49]], .int .i64 0]))
    (hA : cA = 0) (hBc : cB = 0) (hT' : ∀ j : Nat, j ≤ N → ¬ j < N → 49 :: List.replicate j (48 : UInt8) = T) (h0 : N = 0 → T = [49]) (hT : Tab w) (xx : Ext w W) :
    gridFm Tryz.prog (.int .i64 pl) (.bool true) (.agg #[str xn, str xd]) W (Ret fun r w' => Ext w w' ∧ r = .bool true) := by
  unfold gridFm
  refine alR fun g6 w1 x1 hg6 hl6 b6 => ?_
  have k6 : w.heap.size ≤ g6 := by have := xx.size; omega
  replace xx := xx.tr x1
  clear hg6 hl6
  refine stoR b6 fun w2 o2 b6 => ?_
  replace xx := o2.ext xx k6
  refine Cl1 n_law04_pick (cp _ (hT.ext xx)) fun w3 x3 => ?_
  replace b6 := b6.ext x3
  replace xx := xx.tr x3
  refine Lp2.mk (fun s i W => ∃ j : Nat, j ≤ N ∧ s = str (49 :: List.replicate j 48) ∧ i = .int .i64 j ∧ Ext w W ∧ Blk W g6 tR [str xn, str xd]) (fun _ i _ => match i with | .int _ i' => N - i'.toNat | _ => 0) ⟨0, by omega, rfl, rfl, xx, b6⟩ ?_
  clear xx b6
  rintro _ _ W ⟨j, hj, rfl, rfl, xx, b6⟩
  by_cases hjn : j < N
  · refine Bn_ltT (by omega) (If_T (Bn_cat (by simp; omega) (Bn_ad (by omega) (by omega) ?_)))
    refine ⟨⟨j + 1, by omega, ?_, by simp, xx, b6⟩, ?_⟩
    · rw [List.replicate_succ']; rfl
    · show N - ((j : Int) + 1).toNat < N - (j : Int).toNat
      omega
  have et := hT' j hj hjn
  have cMj : ∀ (w : World), Tab w → Calls Tryz.prog 25 #[.agg #[str An, str Ad], .agg #[str (49 :: List.replicate j 48), str [49]]] w (Ret fun r w' => Ext w w' ∧ r = .tuple #[.agg #[str ln, str [49]], .int .i64 0]) := by rw [et]; exact cM
  refine Bn_ltF (by omega) (If_F ?_)
  refine ldR b6 ?_
  refine Cl2 n_rational_Down (cD _ (hT.ext xx)) fun w11 x11 => ?_
  replace b6 := b6.ext x11
  replace xx := xx.tr x11
  have z6 := b6.lt
  refine alR fun g9 w12 x12 hg9 hl9 b9 => ?_
  have k9 : w.heap.size ≤ g9 := by have := xx.size; omega
  have n6x9 : g6 ≠ g9 := by omega
  clear z6
  replace b6 := b6.ext x12
  replace xx := xx.tr x12
  clear hg9 hl9
  refine stoR b9 fun w13 o13 b9 => ?_
  replace b6 := blkOwn b6 n6x9 o13
  replace xx := o13.ext xx k9
  refine ldR b6 ?_
  refine Cl2 n_rational_Up (cU _ (hT.ext xx)) fun w14 x14 => ?_
  replace b6 := b6.ext x14
  replace b9 := b9.ext x14
  replace xx := xx.tr x14
  have z6 := b6.lt
  have z9 := b9.lt
  refine alR fun g11 w15 x15 hg11 hl11 b11 => ?_
  have k11 : w.heap.size ≤ g11 := by have := xx.size; omega
  have n6x11 : g6 ≠ g11 := by omega
  clear z6
  have n9x11 : g9 ≠ g11 := by omega
  clear z9
  replace b6 := b6.ext x15
  replace b9 := b9.ext x15
  replace xx := xx.tr x15
  clear hg11 hl11
  refine stoR b11 fun w16 o16 b11 => ?_
  replace b6 := blkOwn b6 n6x11 o16
  replace b9 := blkOwn b9 n9x11 o16
  replace xx := o16.ext xx k11
  refine ldR b6 ?_
  refine Cl1 n_law04_minus (cm _ (hT.ext xx)) fun w17 x17 => ?_
  replace b6 := b6.ext x17
  replace b9 := b9.ext x17
  replace b11 := b11.ext x17
  replace xx := xx.tr x17
  refine Cl2 n_rational_Down (cDn _ (hT.ext xx)) fun w18 x18 => ?_
  replace b6 := b6.ext x18
  replace b9 := b9.ext x18
  replace b11 := b11.ext x18
  replace xx := xx.tr x18
  have z6 := b6.lt
  have z9 := b9.lt
  have z11 := b11.lt
  refine alR fun g13 w19 x19 hg13 hl13 b13 => ?_
  have k13 : w.heap.size ≤ g13 := by have := xx.size; omega
  have n6x13 : g6 ≠ g13 := by omega
  clear z6
  have n9x13 : g9 ≠ g13 := by omega
  clear z9
  have n11x13 : g11 ≠ g13 := by omega
  clear z11
  replace b6 := b6.ext x19
  replace b9 := b9.ext x19
  replace b11 := b11.ext x19
  replace xx := xx.tr x19
  clear hg13 hl13
  refine stoR b13 fun w20 o20 b13 => ?_
  replace b6 := blkOwn b6 n6x13 o20
  replace b9 := blkOwn b9 n9x13 o20
  replace b11 := blkOwn b11 n11x13 o20
  replace xx := o20.ext xx k13
  refine Dv_neF rfl (GdP_F (GdP_F (Dv_neF rfl (PickP_F (GdP_F (GdP_F (Dv_neF rfl (PickP_F ?_))))))))
  refine GdP_F (dR2x0 (w := w20.drew) b13 (GdP_F (dR2x0 (w := w20.drew) b11 (Gd_F ?_))))
  refine Cl1 n_law04_minus (cmc _ (hT.ext xx.dr)) fun w21 x21 => ?_
  replace x21 : Ext w20 w21 := (Ext.refl w20).dr.tr x21
  replace b6 := b6.ext x21
  replace b9 := b9.ext x21
  replace b11 := b11.ext x21
  replace b13 := b13.ext x21
  replace xx := xx.tr x21
  refine Kg_F (kR2x0 b11 (GdP_F (dqNeF (same2 _ _) (PickP_F ?_))))
  refine GdP_F (dR2x0 b9 (GdP_F (dR2x0 b6 (Gd_F ?_))))
  refine Cl1 n_rational_Compare (c1 _ (hT.ext xx)) fun w22 x22 => ?_
  replace b6 := b6.ext x22
  replace b9 := b9.ext x22
  replace b11 := b11.ext x22
  replace b13 := b13.ext x22
  replace xx := xx.tr x22
  refine GdP_F (Dv_gtF (by omega) (PickP_F (GdP_F (dR2x0 b11 (GdP_F (dR2x0 b6 (Gd_F ?_)))))))
  refine Cl1 n_rational_Compare (c2 _ (hT.ext xx)) fun w23 x23 => ?_
  replace b6 := b6.ext x23
  replace b9 := b9.ext x23
  replace b11 := b11.ext x23
  replace b13 := b13.ext x23
  replace xx := xx.tr x23
  refine GdP_F (Dv_ltF (by omega) (PickP_F (If_F (ldR b11 ?_))))
  refine Cl2 n_rational_Down (cDB _ (hT.ext xx)) fun w24 x24 => ?_
  replace b6 := b6.ext x24
  replace b9 := b9.ext x24
  replace b11 := b11.ext x24
  replace b13 := b13.ext x24
  replace xx := xx.tr x24
  have z6 := b6.lt
  have z9 := b9.lt
  have z11 := b11.lt
  have z13 := b13.lt
  refine alR fun g15 w25 x25 hg15 hl15 b15 => ?_
  have k15 : w.heap.size ≤ g15 := by have := xx.size; omega
  have n6x15 : g6 ≠ g15 := by omega
  clear z6
  have n9x15 : g9 ≠ g15 := by omega
  clear z9
  have n11x15 : g11 ≠ g15 := by omega
  clear z11
  have n13x15 : g13 ≠ g15 := by omega
  clear z13
  replace b6 := b6.ext x25
  replace b9 := b9.ext x25
  replace b11 := b11.ext x25
  replace b13 := b13.ext x25
  replace xx := xx.tr x25
  clear hg15 hl15
  refine stoR b15 fun w26 o26 b15 => ?_
  replace b6 := blkOwn b6 n6x15 o26
  replace b9 := blkOwn b9 n9x15 o26
  replace b11 := blkOwn b11 n11x15 o26
  replace b13 := blkOwn b13 n13x15 o26
  replace xx := o26.ext xx k15
  refine ldR b9 ?_
  refine Cl2 n_rational_Up (cUA _ (hT.ext xx)) fun w27 x27 => ?_
  replace b6 := b6.ext x27
  replace b9 := b9.ext x27
  replace b11 := b11.ext x27
  replace b13 := b13.ext x27
  replace b15 := b15.ext x27
  replace xx := xx.tr x27
  have z6 := b6.lt
  have z9 := b9.lt
  have z11 := b11.lt
  have z13 := b13.lt
  have z15 := b15.lt
  refine alR fun g17 w28 x28 hg17 hl17 b17 => ?_
  have k17 : w.heap.size ≤ g17 := by have := xx.size; omega
  have n6x17 : g6 ≠ g17 := by omega
  clear z6
  have n9x17 : g9 ≠ g17 := by omega
  clear z9
  have n11x17 : g11 ≠ g17 := by omega
  clear z11
  have n13x17 : g13 ≠ g17 := by omega
  clear z13
  have n15x17 : g15 ≠ g17 := by omega
  clear z15
  replace b6 := b6.ext x28
  replace b9 := b9.ext x28
  replace b11 := b11.ext x28
  replace b13 := b13.ext x28
  replace b15 := b15.ext x28
  replace xx := xx.tr x28
  clear hg17 hl17
  refine stoR b17 fun w29 o29 b17 => ?_
  replace b6 := blkOwn b6 n6x17 o29
  replace b9 := blkOwn b9 n9x17 o29
  replace b11 := blkOwn b11 n11x17 o29
  replace b13 := blkOwn b13 n13x17 o29
  replace b15 := blkOwn b15 n15x17 o29
  replace xx := o29.ext xx k17
  clear b13
  refine Jn2.mk ?_
  intro K hK
  have main : ∀ (g19 : Nat) (W : World), Ext w W → Blk W g6 tR [str xn, str xd] → Blk W g9 tR [str An, str Ad] → Blk W g11 tR [str Bn, str Bd] → Blk W g15 tR [str Bn, str Bd] → Blk W g17 tR [str An, str Ad] → Blk W g19 tR [str ln, str [49]] → K (pt g19) (.int .i64 0) W := by
    clear xx b6 b9 b11 b15 b17
    intro g19 W xx b6 b9 b11 b15 b17 b19
    refine hK _ _ W ?_
    clear hK
    refine ldR b11 (ldR b9 ?_)
    refine Cl2 n_rational_Sub (cS _ (hT.ext xx)) fun w30 x30 => ?_
    replace b6 := b6.ext x30
    replace b9 := b9.ext x30
    replace b11 := b11.ext x30
    replace b15 := b15.ext x30
    replace b17 := b17.ext x30
    replace b19 := b19.ext x30
    replace xx := xx.tr x30
    have z6 := b6.lt
    have z9 := b9.lt
    have z11 := b11.lt
    have z15 := b15.lt
    have z17 := b17.lt
    have z19 := b19.lt
    refine alR fun g21 w31 x31 hg21 hl21 b21 => ?_
    have k21 : w.heap.size ≤ g21 := by have := xx.size; omega
    have n6x21 : g6 ≠ g21 := by omega
    clear z6
    have n9x21 : g9 ≠ g21 := by omega
    clear z9
    have n11x21 : g11 ≠ g21 := by omega
    clear z11
    have n15x21 : g15 ≠ g21 := by omega
    clear z15
    have n17x21 : g17 ≠ g21 := by omega
    clear z17
    have n19x21 : g19 ≠ g21 := by omega
    clear z19
    replace b6 := b6.ext x31
    replace b9 := b9.ext x31
    replace b11 := b11.ext x31
    replace b15 := b15.ext x31
    replace b17 := b17.ext x31
    replace b19 := b19.ext x31
    replace xx := xx.tr x31
    clear hg21 hl21
    refine stoR b21 fun w32 o32 b21 => ?_
    replace b6 := blkOwn b6 n6x21 o32
    replace b9 := blkOwn b9 n9x21 o32
    replace b11 := blkOwn b11 n11x21 o32
    replace b15 := blkOwn b15 n15x21 o32
    replace b17 := blkOwn b17 n17x21 o32
    replace b19 := blkOwn b19 n19x21 o32
    replace xx := o32.ext xx k21
    refine ldR b9 (ldR b6 ?_)
    refine Cl1 n_rational_Compare (c1 _ (hT.ext xx)) fun w33 x33 => ?_
    replace b6 := b6.ext x33
    replace b9 := b9.ext x33
    replace b11 := b11.ext x33
    replace b15 := b15.ext x33
    replace b17 := b17.ext x33
    replace b19 := b19.ext x33
    replace b21 := b21.ext x33
    replace xx := xx.tr x33
    refine Bn_eqT hA ?_
    refine Cl1 n_law04_is c_is fun w34 x34 => ?_
    replace b6 := b6.ext x34
    replace b9 := b9.ext x34
    replace b11 := b11.ext x34
    replace b15 := b15.ext x34
    replace b17 := b17.ext x34
    replace b19 := b19.ext x34
    replace b21 := b21.ext x34
    replace xx := xx.tr x34
    have z6 := b6.lt
    have z9 := b9.lt
    have z11 := b11.lt
    have z15 := b15.lt
    have z17 := b17.lt
    have z19 := b19.lt
    have z21 := b21.lt
    refine alR fun g24 w35 x35 hg24 hl24 b24 => ?_
    have k24 : w.heap.size ≤ g24 := by have := xx.size; omega
    have n6x24 : g6 ≠ g24 := by omega
    clear z6
    have n9x24 : g9 ≠ g24 := by omega
    clear z9
    have n11x24 : g11 ≠ g24 := by omega
    clear z11
    have n15x24 : g15 ≠ g24 := by omega
    clear z15
    have n17x24 : g17 ≠ g24 := by omega
    clear z17
    have n19x24 : g19 ≠ g24 := by omega
    clear z19
    have n21x24 : g21 ≠ g24 := by omega
    clear z21
    replace b6 := b6.ext x35
    replace b9 := b9.ext x35
    replace b11 := b11.ext x35
    replace b15 := b15.ext x35
    replace b17 := b17.ext x35
    replace b19 := b19.ext x35
    replace b21 := b21.ext x35
    replace xx := xx.tr x35
    clear hg24 hl24
    refine stoR b24 fun w36 o36 b24 => ?_
    replace b6 := blkOwn b6 n6x24 o36
    replace b9 := blkOwn b9 n9x24 o36
    replace b11 := blkOwn b11 n11x24 o36
    replace b15 := blkOwn b15 n15x24 o36
    replace b17 := blkOwn b17 n17x24 o36
    replace b19 := blkOwn b19 n19x24 o36
    replace b21 := blkOwn b21 n21x24 o36
    replace xx := o36.ext xx k24
    refine Jn0.mk ?_
    intro K3 hK3
    have main3 : ∀ W : World, Ext w W → Blk W g6 tR [str xn, str xd] → Blk W g9 tR [str An, str Ad] → Blk W g11 tR [str Bn, str Bd] → Blk W g15 tR [str Bn, str Bd] → Blk W g17 tR [str An, str Ad] → Blk W g19 tR [str ln, str [49]] → Blk W g21 tR [str [48], str [49]] → Blk W g24 tR [str [49], str T] → K3 W := by
      clear xx b6 b9 b11 b15 b17 b19 b21 b24
      intro W xx b6 b9 b11 b15 b17 b19 b21 b24
      refine hK3 W ?_
      clear hK3
      refine Jn0.mk ?_
      intro K4 hK4
      refine If_T ?_
      refine Cl1 n_law04_is c_is fun w37 x37 => ?_
      replace b6 := b6.ext x37
      replace b9 := b9.ext x37
      replace b11 := b11.ext x37
      replace b15 := b15.ext x37
      replace b17 := b17.ext x37
      replace b19 := b19.ext x37
      replace b21 := b21.ext x37
      replace b24 := b24.ext x37
      replace xx := xx.tr x37
      refine stoR b24 fun w38 o38 b24 => ?_
      replace b6 := blkOwn b6 n6x24 o38
      replace b9 := blkOwn b9 n9x24 o38
      replace b11 := blkOwn b11 n11x24 o38
      replace b15 := blkOwn b15 n15x24 o38
      replace b17 := blkOwn b17 n17x24 o38
      replace b19 := blkOwn b19 n19x24 o38
      replace b21 := blkOwn b21 n21x24 o38
      replace xx := o38.ext xx k24
      refine hK4 _ ?_
      clear hK4
      refine Gd_T (Gd_T (Bn_eqT rfl (Pick_T (Gd_T (Gd_T (Bn_eqT rfl (Pick_T ?_)))))))
      refine Gd_T (ldR b15 (Gd_T (ldR b11 (Gd_T (qEqT (same2 _ _) (Pick_T ?_))))))
      refine Gd_T (ldR b17 (Gd_T (ldR b9 (Gd_T (qEqT (same2 _ _) (Pick_T ?_))))))
      refine Gd_T (Gd_T (Bn_eqT rfl (Pick_T (Gd_T (mF1 (Gd_T (lS2x1 b19 (Gd_T (Bn_eqST (Pick_T ?_))))))))))
      refine Gd_T (Gd_T (Bn_eqT rfl (Pick_T (Gd_T (ldR b21 (Gd_T (ldR b24 (Gd_T (qEqT (same2 _ _) (Pick_T ?_))))))))))
      refine Gd_T (Gd_T (ldR b11 (Gd_T (ldR b6 (Gd_T ?_)))))
      refine Cl1 n_rational_Compare (c2 _ (hT.ext xx)) fun w39 x39 => ?_
      replace b6 := b6.ext x39
      replace b9 := b9.ext x39
      replace b11 := b11.ext x39
      replace b15 := b15.ext x39
      replace b17 := b17.ext x39
      replace b19 := b19.ext x39
      replace b21 := b21.ext x39
      replace b24 := b24.ext x39
      replace xx := xx.tr x39
      refine Gd_T (Bn_eqT hBc (Gd_T (Bn_eqBT hB (by decide) (Pick_T ?_))))
      exact Ret.mk ⟨xx, rfl⟩
    have b24T : Blk w36 g24 tR [str [49], str T] := by rw [← et]; exact b24
    by_cases hz : N = 0
    · refine Bn_eqT (by omega) (If_T ?_)
      clear b24T
      refine Cl1 n_law04_is c_is fun w37 x37 => ?_
      replace b6 := b6.ext x37
      replace b9 := b9.ext x37
      replace b11 := b11.ext x37
      replace b15 := b15.ext x37
      replace b17 := b17.ext x37
      replace b19 := b19.ext x37
      replace b21 := b21.ext x37
      replace b24 := b24.ext x37
      replace xx := xx.tr x37
      refine stoR b24 fun w38 o38 b24 => ?_
      replace b6 := blkOwn b6 n6x24 o38
      replace b9 := blkOwn b9 n9x24 o38
      replace b11 := blkOwn b11 n11x24 o38
      replace b15 := blkOwn b15 n15x24 o38
      replace b17 := blkOwn b17 n17x24 o38
      replace b19 := blkOwn b19 n19x24 o38
      replace b21 := blkOwn b21 n21x24 o38
      replace xx := o38.ext xx k24
      exact main3 _ xx b6 b9 b11 b15 b17 b19 b21 (by rw [h0 hz]; exact b24)
    · exact Bn_eqF (by omega) (If_F (main3 _ xx b6 b9 b11 b15 b17 b19 b21 b24T))
  refine dR2x0 (w := w29.drew) b9 ?_
  refine ⟨?_, ?_⟩
  · skip
    refine Cl1 n_law04_is c_is fun w30 x30 => ?_
    replace x30 : Ext w29 w30 := (Ext.refl w29).dr.tr x30
    replace b6 := b6.ext x30
    replace b9 := b9.ext x30
    replace b11 := b11.ext x30
    replace b15 := b15.ext x30
    replace b17 := b17.ext x30
    replace xx := xx.tr x30
    refine kR2x0 b9 ?_
    refine ⟨?_, ?_⟩
    · skip
      refine Cl1 n_rational_Mul (cMj _ (hT.ext xx)) fun w31 x31 => ?_
      replace b6 := b6.ext x31
      replace b9 := b9.ext x31
      replace b11 := b11.ext x31
      replace b15 := b15.ext x31
      replace b17 := b17.ext x31
      replace xx := xx.tr x31
      refine ExP2 ?_
      have z6 := b6.lt
      have z9 := b9.lt
      have z11 := b11.lt
      have z15 := b15.lt
      have z17 := b17.lt
      refine alR fun g19 w32 x32 hg19 hl19 b19 => ?_
      have k19 : w.heap.size ≤ g19 := by have := xx.size; omega
      have n6x19 : g6 ≠ g19 := by omega
      have n9x19 : g9 ≠ g19 := by omega
      have n11x19 : g11 ≠ g19 := by omega
      have n15x19 : g15 ≠ g19 := by omega
      have n17x19 : g17 ≠ g19 := by omega
      replace b6 := b6.ext x32
      replace b9 := b9.ext x32
      replace b11 := b11.ext x32
      replace b15 := b15.ext x32
      replace b17 := b17.ext x32
      replace xx := xx.tr x32
      refine kR2x0 b9 ?_
      refine stoR b19 fun w33 o33 b19 => ?_
      replace b6 := blkOwn b6 n6x19 o33
      replace b9 := blkOwn b9 n9x19 o33
      replace b11 := blkOwn b11 n11x19 o33
      replace b15 := blkOwn b15 n15x19 o33
      replace b17 := blkOwn b17 n17x19 o33
      replace xx := o33.ext xx k19
      exact main _ _ xx b6 b9 b11 b15 b17 b19
    · skip
      have z6 := b6.lt
      have z9 := b9.lt
      have z11 := b11.lt
      have z15 := b15.lt
      have z17 := b17.lt
      refine alR fun g19 w31 x31 hg19 hl19 b19 => ?_
      have k19 : w.heap.size ≤ g19 := by have := xx.size; omega
      have n6x19 : g6 ≠ g19 := by omega
      have n9x19 : g9 ≠ g19 := by omega
      have n11x19 : g11 ≠ g19 := by omega
      have n15x19 : g15 ≠ g19 := by omega
      have n17x19 : g17 ≠ g19 := by omega
      replace b6 := b6.ext x31
      replace b9 := b9.ext x31
      replace b11 := b11.ext x31
      replace b15 := b15.ext x31
      replace b17 := b17.ext x31
      replace xx := xx.tr x31
      refine kR2x0 b9 ?_
      refine Cl1 n_rational_Mul (cMj _ (hT.ext xx)) fun w32 x32 => ?_
      replace b6 := b6.ext x32
      replace b9 := b9.ext x32
      replace b11 := b11.ext x32
      replace b15 := b15.ext x32
      replace b17 := b17.ext x32
      replace b19 := b19.ext x32
      replace xx := xx.tr x32
      refine ExP2 ?_
      refine stoR b19 fun w33 o33 b19 => ?_
      replace b6 := blkOwn b6 n6x19 o33
      replace b9 := blkOwn b9 n9x19 o33
      replace b11 := blkOwn b11 n11x19 o33
      replace b15 := blkOwn b15 n15x19 o33
      replace b17 := blkOwn b17 n17x19 o33
      replace xx := o33.ext xx k19
      exact main _ _ xx b6 b9 b11 b15 b17 b19
  · skip
    have z6 := b6.lt
    have z9 := b9.lt
    have z11 := b11.lt
    have z15 := b15.lt
    have z17 := b17.lt
    refine alR fun g19 w30 x30 hg19 hl19 b19 => ?_
    replace x30 : Ext w29 w30 := (Ext.refl w29).dr.tr x30
    replace hg19 : w29.heap.size ≤ g19 := hg19
    have k19 : w.heap.size ≤ g19 := by have := xx.size; omega
    have n6x19 : g6 ≠ g19 := by omega
    have n9x19 : g9 ≠ g19 := by omega
    have n11x19 : g11 ≠ g19 := by omega
    have n15x19 : g15 ≠ g19 := by omega
    have n17x19 : g17 ≠ g19 := by omega
    replace b6 := b6.ext x30
    replace b9 := b9.ext x30
    replace b11 := b11.ext x30
    replace b15 := b15.ext x30
    replace b17 := b17.ext x30
    replace xx := xx.tr x30
    refine kR2x0 b9 ?_
    refine Cl1 n_law04_is c_is fun w31 x31 => ?_
    replace b6 := b6.ext x31
    replace b9 := b9.ext x31
    replace b11 := b11.ext x31
    replace b15 := b15.ext x31
    replace b17 := b17.ext x31
    replace b19 := b19.ext x31
    replace xx := xx.tr x31
    refine kR2x0 b9 ?_
    refine Cl1 n_rational_Mul (cMj _ (hT.ext xx)) fun w32 x32 => ?_
    replace b6 := b6.ext x32
    replace b9 := b9.ext x32
    replace b11 := b11.ext x32
    replace b15 := b15.ext x32
    replace b17 := b17.ext x32
    replace b19 := b19.ext x32
    replace xx := xx.tr x32
    refine ExP2 ?_
    refine stoR b19 fun w33 o33 b19 => ?_
    replace b6 := blkOwn b6 n6x19 o33
    replace b9 := blkOwn b9 n9x19 o33
    replace b11 := blkOwn b11 n11x19 o33
    replace b15 := blkOwn b15 n15x19 o33
    replace b17 := blkOwn b17 n17x19 o33
    replace xx := o33.ext xx k19
    exact main _ _ xx b6 b9 b11 b15 b17 b19
set_option maxHeartbeats 8000000 in
theorem grid_ne {pl cA cB : Int} {N : Nat} {xn xd An Ad Bn Bd nn nd Cn Cd T ln : List UInt8} {w W : World} (hB : Tryz.prog.underlying 4 = some .bool) (hN : N ≤ 30)
    (cp : ∀ (w : World), Tab w → Calls Tryz.prog 18 #[.int .i64 pl, .int .i64 31] w (Ret fun r w' => Ext w w' ∧ r = .int .i64 (N : Int)))
    (cD : ∀ (w : World), Tab w → Calls Tryz.prog 35 #[.agg #[str xn, str xd], .int .i64 (N : Int)] w (Ret fun r w' => Ext w w' ∧ r = .tuple #[.agg #[str An, str Ad], .int .i64 0]))
    (cU : ∀ (w : World), Tab w → Calls Tryz.prog 37 #[.agg #[str xn, str xd], .int .i64 (N : Int)] w (Ret fun r w' => Ext w w' ∧ r = .tuple #[.agg #[str Bn, str Bd], .int .i64 0]))
    (cm : ∀ (w : World), Tab w → Calls Tryz.prog 45 #[.agg #[str xn, str xd]] w (Ret fun r w' => Ext w w' ∧ r = .agg #[str nn, str nd]))
    (cDn : ∀ (w : World), Tab w → Calls Tryz.prog 35 #[.agg #[str nn, str nd], .int .i64 (N : Int)] w (Ret fun r w' => Ext w w' ∧ r = .tuple #[.agg #[str Cn, str Cd], .int .i64 0]))
    (cmc : ∀ (w : World), Tab w → Calls Tryz.prog 45 #[.agg #[str Cn, str Cd]] w (Ret fun r w' => Ext w w' ∧ r = .agg #[str Bn, str Bd]))
    (c1 : ∀ (w : World), Tab w → Calls Tryz.prog 23 #[.agg #[str An, str Ad], .agg #[str xn, str xd]] w (Ret fun r w' => Ext w w' ∧ r = .int .i64 cA))
    (c2 : ∀ (w : World), Tab w → Calls Tryz.prog 23 #[.agg #[str Bn, str Bd], .agg #[str xn, str xd]] w (Ret fun r w' => Ext w w' ∧ r = .int .i64 cB))
    (cDB : ∀ (w : World), Tab w → Calls Tryz.prog 35 #[.agg #[str Bn, str Bd], .int .i64 (N : Int)] w (Ret fun r w' => Ext w w' ∧ r = .tuple #[.agg #[str Bn, str Bd], .int .i64 0]))
    (cUA : ∀ (w : World), Tab w → Calls Tryz.prog 37 #[.agg #[str An, str Ad], .int .i64 (N : Int)] w (Ret fun r w' => Ext w w' ∧ r = .tuple #[.agg #[str An, str Ad], .int .i64 0]))
    (cM : ∀ (w : World), Tab w → Calls Tryz.prog 25 #[.agg #[str An, str Ad], .agg #[str T, str [49]]] w (Ret fun r w' => Ext w w' ∧ r = .tuple #[.agg #[str ln, str [49]], .int .i64 0]))
    (cS : ∀ (w : World), Tab w → Calls Tryz.prog 44 #[.agg #[str Bn, str Bd], .agg #[str An, str Ad]] w (Ret fun r w' => Ext w w' ∧ r = .tuple #[.agg #[str [49], str T], .int .i64 0]))
    (hA : cA < 0) (hBc : 0 < cB) (hT' : ∀ j : Nat, j ≤ N → ¬ j < N → 49 :: List.replicate j (48 : UInt8) = T) (h0 : N = 0 → T = [49]) (hT : Tab w) (xx : Ext w W) :
    gridFm Tryz.prog (.int .i64 pl) (.bool true) (.agg #[str xn, str xd]) W (Ret fun r w' => Ext w w' ∧ r = .bool true) := by
  unfold gridFm
  refine alR fun g6 w1 x1 hg6 hl6 b6 => ?_
  have k6 : w.heap.size ≤ g6 := by have := xx.size; omega
  replace xx := xx.tr x1
  clear hg6 hl6
  refine stoR b6 fun w2 o2 b6 => ?_
  replace xx := o2.ext xx k6
  refine Cl1 n_law04_pick (cp _ (hT.ext xx)) fun w3 x3 => ?_
  replace b6 := b6.ext x3
  replace xx := xx.tr x3
  refine Lp2.mk (fun s i W => ∃ j : Nat, j ≤ N ∧ s = str (49 :: List.replicate j 48) ∧ i = .int .i64 j ∧ Ext w W ∧ Blk W g6 tR [str xn, str xd]) (fun _ i _ => match i with | .int _ i' => N - i'.toNat | _ => 0) ⟨0, by omega, rfl, rfl, xx, b6⟩ ?_
  clear xx b6
  rintro _ _ W ⟨j, hj, rfl, rfl, xx, b6⟩
  by_cases hjn : j < N
  · refine Bn_ltT (by omega) (If_T (Bn_cat (by simp; omega) (Bn_ad (by omega) (by omega) ?_)))
    refine ⟨⟨j + 1, by omega, ?_, by simp, xx, b6⟩, ?_⟩
    · rw [List.replicate_succ']; rfl
    · show N - ((j : Int) + 1).toNat < N - (j : Int).toNat
      omega
  have et := hT' j hj hjn
  have cMj : ∀ (w : World), Tab w → Calls Tryz.prog 25 #[.agg #[str An, str Ad], .agg #[str (49 :: List.replicate j 48), str [49]]] w (Ret fun r w' => Ext w w' ∧ r = .tuple #[.agg #[str ln, str [49]], .int .i64 0]) := by rw [et]; exact cM
  refine Bn_ltF (by omega) (If_F ?_)
  refine ldR b6 ?_
  refine Cl2 n_rational_Down (cD _ (hT.ext xx)) fun w11 x11 => ?_
  replace b6 := b6.ext x11
  replace xx := xx.tr x11
  have z6 := b6.lt
  refine alR fun g9 w12 x12 hg9 hl9 b9 => ?_
  have k9 : w.heap.size ≤ g9 := by have := xx.size; omega
  have n6x9 : g6 ≠ g9 := by omega
  clear z6
  replace b6 := b6.ext x12
  replace xx := xx.tr x12
  clear hg9 hl9
  refine stoR b9 fun w13 o13 b9 => ?_
  replace b6 := blkOwn b6 n6x9 o13
  replace xx := o13.ext xx k9
  refine ldR b6 ?_
  refine Cl2 n_rational_Up (cU _ (hT.ext xx)) fun w14 x14 => ?_
  replace b6 := b6.ext x14
  replace b9 := b9.ext x14
  replace xx := xx.tr x14
  have z6 := b6.lt
  have z9 := b9.lt
  refine alR fun g11 w15 x15 hg11 hl11 b11 => ?_
  have k11 : w.heap.size ≤ g11 := by have := xx.size; omega
  have n6x11 : g6 ≠ g11 := by omega
  clear z6
  have n9x11 : g9 ≠ g11 := by omega
  clear z9
  replace b6 := b6.ext x15
  replace b9 := b9.ext x15
  replace xx := xx.tr x15
  clear hg11 hl11
  refine stoR b11 fun w16 o16 b11 => ?_
  replace b6 := blkOwn b6 n6x11 o16
  replace b9 := blkOwn b9 n9x11 o16
  replace xx := o16.ext xx k11
  refine ldR b6 ?_
  refine Cl1 n_law04_minus (cm _ (hT.ext xx)) fun w17 x17 => ?_
  replace b6 := b6.ext x17
  replace b9 := b9.ext x17
  replace b11 := b11.ext x17
  replace xx := xx.tr x17
  refine Cl2 n_rational_Down (cDn _ (hT.ext xx)) fun w18 x18 => ?_
  replace b6 := b6.ext x18
  replace b9 := b9.ext x18
  replace b11 := b11.ext x18
  replace xx := xx.tr x18
  have z6 := b6.lt
  have z9 := b9.lt
  have z11 := b11.lt
  refine alR fun g13 w19 x19 hg13 hl13 b13 => ?_
  have k13 : w.heap.size ≤ g13 := by have := xx.size; omega
  have n6x13 : g6 ≠ g13 := by omega
  clear z6
  have n9x13 : g9 ≠ g13 := by omega
  clear z9
  have n11x13 : g11 ≠ g13 := by omega
  clear z11
  replace b6 := b6.ext x19
  replace b9 := b9.ext x19
  replace b11 := b11.ext x19
  replace xx := xx.tr x19
  clear hg13 hl13
  refine stoR b13 fun w20 o20 b13 => ?_
  replace b6 := blkOwn b6 n6x13 o20
  replace b9 := blkOwn b9 n9x13 o20
  replace b11 := blkOwn b11 n11x13 o20
  replace xx := o20.ext xx k13
  refine Dv_neF rfl (GdP_F (GdP_F (Dv_neF rfl (PickP_F (GdP_F (GdP_F (Dv_neF rfl (PickP_F ?_))))))))
  refine GdP_F (dR2x0 (w := w20.drew) b13 (GdP_F (dR2x0 (w := w20.drew) b11 (Gd_F ?_))))
  refine Cl1 n_law04_minus (cmc _ (hT.ext xx.dr)) fun w21 x21 => ?_
  replace x21 : Ext w20 w21 := (Ext.refl w20).dr.tr x21
  replace b6 := b6.ext x21
  replace b9 := b9.ext x21
  replace b11 := b11.ext x21
  replace b13 := b13.ext x21
  replace xx := xx.tr x21
  refine Kg_F (kR2x0 b11 (GdP_F (dqNeF (same2 _ _) (PickP_F ?_))))
  refine GdP_F (dR2x0 b9 (GdP_F (dR2x0 b6 (Gd_F ?_))))
  refine Cl1 n_rational_Compare (c1 _ (hT.ext xx)) fun w22 x22 => ?_
  replace b6 := b6.ext x22
  replace b9 := b9.ext x22
  replace b11 := b11.ext x22
  replace b13 := b13.ext x22
  replace xx := xx.tr x22
  refine GdP_F (Dv_gtF (by omega) (PickP_F (GdP_F (dR2x0 b11 (GdP_F (dR2x0 b6 (Gd_F ?_)))))))
  refine Cl1 n_rational_Compare (c2 _ (hT.ext xx)) fun w23 x23 => ?_
  replace b6 := b6.ext x23
  replace b9 := b9.ext x23
  replace b11 := b11.ext x23
  replace b13 := b13.ext x23
  replace xx := xx.tr x23
  refine GdP_F (Dv_ltF (by omega) (PickP_F (If_F (ldR b11 ?_))))
  refine Cl2 n_rational_Down (cDB _ (hT.ext xx)) fun w24 x24 => ?_
  replace b6 := b6.ext x24
  replace b9 := b9.ext x24
  replace b11 := b11.ext x24
  replace b13 := b13.ext x24
  replace xx := xx.tr x24
  have z6 := b6.lt
  have z9 := b9.lt
  have z11 := b11.lt
  have z13 := b13.lt
  refine alR fun g15 w25 x25 hg15 hl15 b15 => ?_
  have k15 : w.heap.size ≤ g15 := by have := xx.size; omega
  have n6x15 : g6 ≠ g15 := by omega
  clear z6
  have n9x15 : g9 ≠ g15 := by omega
  clear z9
  have n11x15 : g11 ≠ g15 := by omega
  clear z11
  have n13x15 : g13 ≠ g15 := by omega
  clear z13
  replace b6 := b6.ext x25
  replace b9 := b9.ext x25
  replace b11 := b11.ext x25
  replace b13 := b13.ext x25
  replace xx := xx.tr x25
  clear hg15 hl15
  refine stoR b15 fun w26 o26 b15 => ?_
  replace b6 := blkOwn b6 n6x15 o26
  replace b9 := blkOwn b9 n9x15 o26
  replace b11 := blkOwn b11 n11x15 o26
  replace b13 := blkOwn b13 n13x15 o26
  replace xx := o26.ext xx k15
  refine ldR b9 ?_
  refine Cl2 n_rational_Up (cUA _ (hT.ext xx)) fun w27 x27 => ?_
  replace b6 := b6.ext x27
  replace b9 := b9.ext x27
  replace b11 := b11.ext x27
  replace b13 := b13.ext x27
  replace b15 := b15.ext x27
  replace xx := xx.tr x27
  have z6 := b6.lt
  have z9 := b9.lt
  have z11 := b11.lt
  have z13 := b13.lt
  have z15 := b15.lt
  refine alR fun g17 w28 x28 hg17 hl17 b17 => ?_
  have k17 : w.heap.size ≤ g17 := by have := xx.size; omega
  have n6x17 : g6 ≠ g17 := by omega
  clear z6
  have n9x17 : g9 ≠ g17 := by omega
  clear z9
  have n11x17 : g11 ≠ g17 := by omega
  clear z11
  have n13x17 : g13 ≠ g17 := by omega
  clear z13
  have n15x17 : g15 ≠ g17 := by omega
  clear z15
  replace b6 := b6.ext x28
  replace b9 := b9.ext x28
  replace b11 := b11.ext x28
  replace b13 := b13.ext x28
  replace b15 := b15.ext x28
  replace xx := xx.tr x28
  clear hg17 hl17
  refine stoR b17 fun w29 o29 b17 => ?_
  replace b6 := blkOwn b6 n6x17 o29
  replace b9 := blkOwn b9 n9x17 o29
  replace b11 := blkOwn b11 n11x17 o29
  replace b13 := blkOwn b13 n13x17 o29
  replace b15 := blkOwn b15 n15x17 o29
  replace xx := o29.ext xx k17
  clear b13
  refine Jn2.mk ?_
  intro K hK
  have main : ∀ (g19 : Nat) (W : World), Ext w W → Blk W g6 tR [str xn, str xd] → Blk W g9 tR [str An, str Ad] → Blk W g11 tR [str Bn, str Bd] → Blk W g15 tR [str Bn, str Bd] → Blk W g17 tR [str An, str Ad] → Blk W g19 tR [str ln, str [49]] → K (pt g19) (.int .i64 0) W := by
    clear xx b6 b9 b11 b15 b17
    intro g19 W xx b6 b9 b11 b15 b17 b19
    refine hK _ _ W ?_
    clear hK
    refine ldR b11 (ldR b9 ?_)
    refine Cl2 n_rational_Sub (cS _ (hT.ext xx)) fun w30 x30 => ?_
    replace b6 := b6.ext x30
    replace b9 := b9.ext x30
    replace b11 := b11.ext x30
    replace b15 := b15.ext x30
    replace b17 := b17.ext x30
    replace b19 := b19.ext x30
    replace xx := xx.tr x30
    have z6 := b6.lt
    have z9 := b9.lt
    have z11 := b11.lt
    have z15 := b15.lt
    have z17 := b17.lt
    have z19 := b19.lt
    refine alR fun g21 w31 x31 hg21 hl21 b21 => ?_
    have k21 : w.heap.size ≤ g21 := by have := xx.size; omega
    have n6x21 : g6 ≠ g21 := by omega
    clear z6
    have n9x21 : g9 ≠ g21 := by omega
    clear z9
    have n11x21 : g11 ≠ g21 := by omega
    clear z11
    have n15x21 : g15 ≠ g21 := by omega
    clear z15
    have n17x21 : g17 ≠ g21 := by omega
    clear z17
    have n19x21 : g19 ≠ g21 := by omega
    clear z19
    replace b6 := b6.ext x31
    replace b9 := b9.ext x31
    replace b11 := b11.ext x31
    replace b15 := b15.ext x31
    replace b17 := b17.ext x31
    replace b19 := b19.ext x31
    replace xx := xx.tr x31
    clear hg21 hl21
    refine stoR b21 fun w32 o32 b21 => ?_
    replace b6 := blkOwn b6 n6x21 o32
    replace b9 := blkOwn b9 n9x21 o32
    replace b11 := blkOwn b11 n11x21 o32
    replace b15 := blkOwn b15 n15x21 o32
    replace b17 := blkOwn b17 n17x21 o32
    replace b19 := blkOwn b19 n19x21 o32
    replace xx := o32.ext xx k21
    refine ldR b9 (ldR b6 ?_)
    refine Cl1 n_rational_Compare (c1 _ (hT.ext xx)) fun w33 x33 => ?_
    replace b6 := b6.ext x33
    replace b9 := b9.ext x33
    replace b11 := b11.ext x33
    replace b15 := b15.ext x33
    replace b17 := b17.ext x33
    replace b19 := b19.ext x33
    replace b21 := b21.ext x33
    replace xx := xx.tr x33
    refine Bn_eqF (.inl hA) ?_
    refine Cl1 n_law04_is c_is fun w34 x34 => ?_
    replace b6 := b6.ext x34
    replace b9 := b9.ext x34
    replace b11 := b11.ext x34
    replace b15 := b15.ext x34
    replace b17 := b17.ext x34
    replace b19 := b19.ext x34
    replace b21 := b21.ext x34
    replace xx := xx.tr x34
    have z6 := b6.lt
    have z9 := b9.lt
    have z11 := b11.lt
    have z15 := b15.lt
    have z17 := b17.lt
    have z19 := b19.lt
    have z21 := b21.lt
    refine alR fun g24 w35 x35 hg24 hl24 b24 => ?_
    have k24 : w.heap.size ≤ g24 := by have := xx.size; omega
    have n6x24 : g6 ≠ g24 := by omega
    clear z6
    have n9x24 : g9 ≠ g24 := by omega
    clear z9
    have n11x24 : g11 ≠ g24 := by omega
    clear z11
    have n15x24 : g15 ≠ g24 := by omega
    clear z15
    have n17x24 : g17 ≠ g24 := by omega
    clear z17
    have n19x24 : g19 ≠ g24 := by omega
    clear z19
    have n21x24 : g21 ≠ g24 := by omega
    clear z21
    replace b6 := b6.ext x35
    replace b9 := b9.ext x35
    replace b11 := b11.ext x35
    replace b15 := b15.ext x35
    replace b17 := b17.ext x35
    replace b19 := b19.ext x35
    replace b21 := b21.ext x35
    replace xx := xx.tr x35
    clear hg24 hl24
    refine stoR b24 fun w36 o36 b24 => ?_
    replace b6 := blkOwn b6 n6x24 o36
    replace b9 := blkOwn b9 n9x24 o36
    replace b11 := blkOwn b11 n11x24 o36
    replace b15 := blkOwn b15 n15x24 o36
    replace b17 := blkOwn b17 n17x24 o36
    replace b19 := blkOwn b19 n19x24 o36
    replace b21 := blkOwn b21 n21x24 o36
    replace xx := o36.ext xx k24
    refine Jn0.mk ?_
    intro K3 hK3
    have main3 : ∀ W : World, Ext w W → Blk W g6 tR [str xn, str xd] → Blk W g9 tR [str An, str Ad] → Blk W g11 tR [str Bn, str Bd] → Blk W g15 tR [str Bn, str Bd] → Blk W g17 tR [str An, str Ad] → Blk W g19 tR [str ln, str [49]] → Blk W g21 tR [str [49], str T] → Blk W g24 tR [str [49], str T] → K3 W := by
      clear xx b6 b9 b11 b15 b17 b19 b21 b24
      intro W xx b6 b9 b11 b15 b17 b19 b21 b24
      refine hK3 W ?_
      clear hK3
      refine Jn0.mk ?_
      intro K4 hK4
      refine If_F ?_
      refine hK4 _ ?_
      clear hK4
      refine Gd_T (Gd_T (Bn_eqT rfl (Pick_T (Gd_T (Gd_T (Bn_eqT rfl (Pick_T ?_)))))))
      refine Gd_T (ldR b15 (Gd_T (ldR b11 (Gd_T (qEqT (same2 _ _) (Pick_T ?_))))))
      refine Gd_T (ldR b17 (Gd_T (ldR b9 (Gd_T (qEqT (same2 _ _) (Pick_T ?_))))))
      refine Gd_T (Gd_T (Bn_eqT rfl (Pick_T (Gd_T (mF1 (Gd_T (lS2x1 b19 (Gd_T (Bn_eqST (Pick_T ?_))))))))))
      refine Gd_T (Gd_T (Bn_eqT rfl (Pick_T (Gd_T (ldR b21 (Gd_T (ldR b24 (Gd_T (qEqT (same2 _ _) (Pick_T ?_))))))))))
      refine Gd_T (Gd_T (ldR b11 (Gd_T (ldR b6 (Gd_T ?_)))))
      refine Cl1 n_rational_Compare (c2 _ (hT.ext xx)) fun w37 x37 => ?_
      replace b6 := b6.ext x37
      replace b9 := b9.ext x37
      replace b11 := b11.ext x37
      replace b15 := b15.ext x37
      replace b17 := b17.ext x37
      replace b19 := b19.ext x37
      replace b21 := b21.ext x37
      replace b24 := b24.ext x37
      replace xx := xx.tr x37
      refine Gd_T (Bn_eqF (.inr hBc) (Gd_T (Bn_eqBT hB (by decide) (Pick_T ?_))))
      exact Ret.mk ⟨xx, rfl⟩
    have b24T : Blk w36 g24 tR [str [49], str T] := by rw [← et]; exact b24
    by_cases hz : N = 0
    · refine Bn_eqT (by omega) (If_T ?_)
      clear b24T
      refine Cl1 n_law04_is c_is fun w37 x37 => ?_
      replace b6 := b6.ext x37
      replace b9 := b9.ext x37
      replace b11 := b11.ext x37
      replace b15 := b15.ext x37
      replace b17 := b17.ext x37
      replace b19 := b19.ext x37
      replace b21 := b21.ext x37
      replace b24 := b24.ext x37
      replace xx := xx.tr x37
      refine stoR b24 fun w38 o38 b24 => ?_
      replace b6 := blkOwn b6 n6x24 o38
      replace b9 := blkOwn b9 n9x24 o38
      replace b11 := blkOwn b11 n11x24 o38
      replace b15 := blkOwn b15 n15x24 o38
      replace b17 := blkOwn b17 n17x24 o38
      replace b19 := blkOwn b19 n19x24 o38
      replace b21 := blkOwn b21 n21x24 o38
      replace xx := o38.ext xx k24
      exact main3 _ xx b6 b9 b11 b15 b17 b19 b21 (by rw [h0 hz]; exact b24)
    · exact Bn_eqF (by omega) (If_F (main3 _ xx b6 b9 b11 b15 b17 b19 b21 b24T))
  refine dR2x0 (w := w29.drew) b9 ?_
  refine ⟨?_, ?_⟩
  · skip
    refine Cl1 n_law04_is c_is fun w30 x30 => ?_
    replace x30 : Ext w29 w30 := (Ext.refl w29).dr.tr x30
    replace b6 := b6.ext x30
    replace b9 := b9.ext x30
    replace b11 := b11.ext x30
    replace b15 := b15.ext x30
    replace b17 := b17.ext x30
    replace xx := xx.tr x30
    refine kR2x0 b9 ?_
    refine ⟨?_, ?_⟩
    · skip
      refine Cl1 n_rational_Mul (cMj _ (hT.ext xx)) fun w31 x31 => ?_
      replace b6 := b6.ext x31
      replace b9 := b9.ext x31
      replace b11 := b11.ext x31
      replace b15 := b15.ext x31
      replace b17 := b17.ext x31
      replace xx := xx.tr x31
      refine ExP2 ?_
      have z6 := b6.lt
      have z9 := b9.lt
      have z11 := b11.lt
      have z15 := b15.lt
      have z17 := b17.lt
      refine alR fun g19 w32 x32 hg19 hl19 b19 => ?_
      have k19 : w.heap.size ≤ g19 := by have := xx.size; omega
      have n6x19 : g6 ≠ g19 := by omega
      have n9x19 : g9 ≠ g19 := by omega
      have n11x19 : g11 ≠ g19 := by omega
      have n15x19 : g15 ≠ g19 := by omega
      have n17x19 : g17 ≠ g19 := by omega
      replace b6 := b6.ext x32
      replace b9 := b9.ext x32
      replace b11 := b11.ext x32
      replace b15 := b15.ext x32
      replace b17 := b17.ext x32
      replace xx := xx.tr x32
      refine kR2x0 b9 ?_
      refine stoR b19 fun w33 o33 b19 => ?_
      replace b6 := blkOwn b6 n6x19 o33
      replace b9 := blkOwn b9 n9x19 o33
      replace b11 := blkOwn b11 n11x19 o33
      replace b15 := blkOwn b15 n15x19 o33
      replace b17 := blkOwn b17 n17x19 o33
      replace xx := o33.ext xx k19
      exact main _ _ xx b6 b9 b11 b15 b17 b19
    · skip
      have z6 := b6.lt
      have z9 := b9.lt
      have z11 := b11.lt
      have z15 := b15.lt
      have z17 := b17.lt
      refine alR fun g19 w31 x31 hg19 hl19 b19 => ?_
      have k19 : w.heap.size ≤ g19 := by have := xx.size; omega
      have n6x19 : g6 ≠ g19 := by omega
      have n9x19 : g9 ≠ g19 := by omega
      have n11x19 : g11 ≠ g19 := by omega
      have n15x19 : g15 ≠ g19 := by omega
      have n17x19 : g17 ≠ g19 := by omega
      replace b6 := b6.ext x31
      replace b9 := b9.ext x31
      replace b11 := b11.ext x31
      replace b15 := b15.ext x31
      replace b17 := b17.ext x31
      replace xx := xx.tr x31
      refine kR2x0 b9 ?_
      refine Cl1 n_rational_Mul (cMj _ (hT.ext xx)) fun w32 x32 => ?_
      replace b6 := b6.ext x32
      replace b9 := b9.ext x32
      replace b11 := b11.ext x32
      replace b15 := b15.ext x32
      replace b17 := b17.ext x32
      replace b19 := b19.ext x32
      replace xx := xx.tr x32
      refine ExP2 ?_
      refine stoR b19 fun w33 o33 b19 => ?_
      replace b6 := blkOwn b6 n6x19 o33
      replace b9 := blkOwn b9 n9x19 o33
      replace b11 := blkOwn b11 n11x19 o33
      replace b15 := blkOwn b15 n15x19 o33
      replace b17 := blkOwn b17 n17x19 o33
      replace xx := o33.ext xx k19
      exact main _ _ xx b6 b9 b11 b15 b17 b19
  · skip
    have z6 := b6.lt
    have z9 := b9.lt
    have z11 := b11.lt
    have z15 := b15.lt
    have z17 := b17.lt
    refine alR fun g19 w30 x30 hg19 hl19 b19 => ?_
    replace x30 : Ext w29 w30 := (Ext.refl w29).dr.tr x30
    replace hg19 : w29.heap.size ≤ g19 := hg19
    have k19 : w.heap.size ≤ g19 := by have := xx.size; omega
    have n6x19 : g6 ≠ g19 := by omega
    have n9x19 : g9 ≠ g19 := by omega
    have n11x19 : g11 ≠ g19 := by omega
    have n15x19 : g15 ≠ g19 := by omega
    have n17x19 : g17 ≠ g19 := by omega
    replace b6 := b6.ext x30
    replace b9 := b9.ext x30
    replace b11 := b11.ext x30
    replace b15 := b15.ext x30
    replace b17 := b17.ext x30
    replace xx := xx.tr x30
    refine kR2x0 b9 ?_
    refine Cl1 n_law04_is c_is fun w31 x31 => ?_
    replace b6 := b6.ext x31
    replace b9 := b9.ext x31
    replace b11 := b11.ext x31
    replace b15 := b15.ext x31
    replace b17 := b17.ext x31
    replace b19 := b19.ext x31
    replace xx := xx.tr x31
    refine kR2x0 b9 ?_
    refine Cl1 n_rational_Mul (cMj _ (hT.ext xx)) fun w32 x32 => ?_
    replace b6 := b6.ext x32
    replace b9 := b9.ext x32
    replace b11 := b11.ext x32
    replace b15 := b15.ext x32
    replace b17 := b17.ext x32
    replace b19 := b19.ext x32
    replace xx := xx.tr x32
    refine ExP2 ?_
    refine stoR b19 fun w33 o33 b19 => ?_
    replace b6 := blkOwn b6 n6x19 o33
    replace b9 := blkOwn b9 n9x19 o33
    replace b11 := blkOwn b11 n11x19 o33
    replace b15 := blkOwn b15 n15x19 o33
    replace b17 := blkOwn b17 n17x19 o33
    replace xx := o33.ext xx k19
    exact main _ _ xx b6 b9 b11 b15 b17 b19
theorem i_Grid {a0 a1 a2 a3 p : Int} {w : World} (r0 : R64 a0) (r1 : R64 a1) (r2 : R64 a2) (r3 : R64 a3) (rp : R64 p) (hT : Tab w) (hM : MaxV w) :
    Calls Tryz.prog 10 #[.agg #[.int .i64 a0, .int .i64 a1, .int .i64 a2, .int .i64 a3], .int .i64 p] w (Ret fun r w' => Ext w w' ∧ r = .bool true) := by
  have hB : Tryz.prog.underlying 4 = some .bool := Tryz.underlying4
  have p0 := fun w : World => c_pick (w := w) rp.1 rp.2 (n := 31) (by decide)
  have d0 := pickZ_bd (c := p) (n := 31) (by decide)
  obtain ⟨N, hN⟩ : ∃ N : Nat, pickZ p 31 = (N : Int) := ⟨(pickZ p 31).toNat, by omega⟩
  rw [hN] at d0
  simp only [hN] at p0
  have fin : ∀ (x : Rat) (W : World), SR 100 100 x → Ext w W → gridFm Tryz.prog (.int .i64 p) (.bool true) (fq x) W (Ret fun r w' => Ext w w' ∧ r = .bool true) := by
    intro x W hx xx
    have h0 : (0 : Int) ≤ (N : Int) := by omega
    have h1 : (N : Int) ≤ 30 := by omega
    have sA : SR 132 31 (gV false N x) := gV_SR hx h0 h1
    have sB : SR 132 31 (gV true N x) := gV_SR hx h0 h1
    have e := neg_e x
    have sn : SR 101 100 (0 - x) := ⟨by rw [e.1]; exact hx.1.neg.mono (by decide), by rw [e.2]; exact hx.2⟩
    have sC : SR 133 31 (gV false N (0 - x)) := gV_SR sn h0 h1
    have sT : SR 31 1 ((ten N : Int) : Rat) := SR.int (ten_Sz1 h0 h1)
    have hr : RB x := hx.rb (by decide) (by decide)
    have hA := sA.rb (by decide) (by decide)
    have hBr := sB.rb (by decide) (by decide)
    have cM : ∀ w : World, Tab w → Calls Tryz.prog 25 #[fq (gV false N x), .agg #[str (Lib.itoa (ten N)), str [49]]] w (Ret fun r w' => Ext w w' ∧ r = .tuple #[.agg #[str (Lib.itoa (gridN false x N)), str [49]], .int .i64 0]) := by
      intro w hT
      have := k_mul (w := w) hA (sT.rb (by decide) (by decide)) hT
      rw [qmul_ok sA sT (by decide) (by decide), g_mul] at this
      have e1 : fq ((ten N : Int) : Rat) = .agg #[str (Lib.itoa (ten N)), str [49]] := by
        show Value.agg #[str (Lib.itoa (ten N)), str (Lib.itoa 1)] = _
        rw [l1]
      have e2 : (Value.tuple #[.agg #[str (rQ ((gridN false x N : Int) : Rat)).1, str (rQ ((gridN false x N : Int) : Rat)).2.1], .int .i64 (rQ ((gridN false x N : Int) : Rat)).2.2]) = .tuple #[.agg #[str (Lib.itoa (gridN false x N)), str [49]], .int .i64 0] := by
        show Value.tuple #[.agg #[str (Lib.itoa (gridN false x N)), str (Lib.itoa 1)], .int .i64 0] = _
        rw [l1]
      rw [e1, e2] at this
      exact this
    have cS : ∀ w : World, Tab w → Calls Tryz.prog 44 #[fq (gV true N x), fq (gV false N x)] w (Ret fun r w' => Ext w w' ∧ r = .tuple #[.agg #[str (rQ (gV true N x - gV false N x)).1, str (rQ (gV true N x - gV false N x)).2.1], .int .i64 (rQ (gV true N x - gV false N x)).2.2]) := by
      intro w hT
      have := k_sub (w := w) hBr hA hT
      rw [qsub_ok sB sA (k := 163) (by decide) (by decide) (by decide) (by decide)] at this
      exact this
    have hT' : ∀ j : Nat, j ≤ N → ¬ j < N → 49 :: List.replicate j (48 : UInt8) = Lib.itoa (ten N) := fun j h h' => ten_str (by omega)
    have hz : N = 0 → Lib.itoa (ten N) = [49] := by intro h; rw [h]; exact l1
    by_cases he : (x.num * ten N) % (x.den : Int) = 0
    · have eA := g_ex he false
      have eB := g_ex he true
      rw [eA, eB, show x - x = 0 by grind] at cS
      rw [eA] at cM
      have e2 : (Value.tuple #[.agg #[str (rQ 0).1, str (rQ 0).2.1], .int .i64 (rQ 0).2.2]) = .tuple #[.agg #[str [48], str [49]], .int .i64 0] := by
        have := fq0
        show Value.tuple #[fq 0, .int .i64 0] = _
        rw [this]
      rw [e2] at cS
      exact grid_ex (N := N) (cA := 0) (cB := 0) hB (by omega) (fun w _ => p0 w) (fun w t => k_gd c_qDown hx (by decide) (by decide) h0 h1 eA t) (fun w t => k_gd c_qUp hx (by decide) (by decide) h0 h1 eB t) (fun w t => k_ming hx (by decide) (by decide) rfl t) (fun w t => k_gd c_qDown sn (by decide) (by decide) h0 h1 rfl t) (fun w t => k_ming sC (by decide) (by decide) ((gV_neg x N).trans eB) t)
        (fun w t => by have := k_cmpq (w := w) hr hr t; rw [cmpQ_eq rfl] at this; exact this) (fun w t => by have := k_cmpq (w := w) hr hr t; rw [cmpQ_eq rfl] at this; exact this) (fun w t => k_gd c_qDown hx (by decide) (by decide) h0 h1 eA t) (fun w t => k_gd c_qUp hx (by decide) (by decide) h0 h1 eB t) cM cS rfl rfl hT' hz hT xx
    · have hw := g_wid he
      rw [hw] at cS
      exact grid_ne (N := N) (cA := -1) (cB := 1) hB (by omega) (fun w _ => p0 w) (fun w t => k_gd c_qDown hx (by decide) (by decide) h0 h1 rfl t) (fun w t => k_gd c_qUp hx (by decide) (by decide) h0 h1 rfl t) (fun w t => k_ming hx (by decide) (by decide) rfl t) (fun w t => k_gd c_qDown sn (by decide) (by decide) h0 h1 rfl t) (fun w t => k_ming sC (by decide) (by decide) (gV_neg x N) t)
        (fun w t => by have := k_cmpq (w := w) hA hr t; rw [cmpQ_lt (g_lo he)] at this; exact this) (fun w t => by have := k_cmpq (w := w) hBr hr t; rw [cmpQ_gt (g_hi he)] at this; exact this) (fun w t => k_gd c_qDown sB (by decide) (by decide) h0 h1 (gV_gV _ _ _ _) t) (fun w t => k_gd c_qUp sA (by decide) (by decide) h0 h1 (gV_gV _ _ _ _) t) cM cS (by decide) (by decide) hT' hz hT xx
  apply e_law04_RationalGrid
  unfold s_law04_RationalGrid
  refine bxI4 fun g2 w1 x1 hg2 hl2 b2 => ?_
  have k2 : w.heap.size ≤ g2 := hg2
  have xx := x1
  clear hg2 hl2
  refine Cl1 n_law04_sane (c_sane (hT.ext xx) (hM.ext xx)) fun w2 x2 => ?_
  replace b2 := b2.ext x2
  replace xx := xx.tr x2
  refine ldI4 b2 ?_
  refine Cl_i n_ref04_Long (i_Long r0 r1 r2 r3) ?_
  rintro _ w3 ⟨x3, x, hx, rfl⟩
  replace b2 := b2.ext x3
  replace xx := xx.tr x3
  exact fin x _ hx xx
end Go.Proofs.YthpcmmfijelbaaaGreatDoor
