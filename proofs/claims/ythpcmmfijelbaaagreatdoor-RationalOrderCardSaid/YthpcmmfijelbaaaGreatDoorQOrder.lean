/-
  Contracts of functions of the program, and plain lemmas on numbers and strings. By an AI agent.
-/
import Derived.Test.YthpcmmfijelbaaaGreatDoorQHelp
import Derived.Test.YthpcmmfijelbaaaGreatDoorEngT
set_option linter.unusedSimpArgs false
set_option linter.unusedVariables false
set_option linter.unusedSectionVars false
namespace Go.Proofs.YthpcmmfijelbaaaGreatDoor
open Go Go.Eng Go.Proofs Go.Num Go.RowKit
set_option maxRecDepth 100000
set_option linter.unusedVariables false
set_option linter.unusedSectionVars false
theorem cmp_neg (x y : Rat) : cmpQ y x = - cmpQ x y := by
  rcases cmpQ_cases x y with ⟨h, e⟩ | ⟨h, e⟩ | ⟨h, e⟩
  · rw [e, cmpQ_gt h]; rfl
  · rw [e, cmpQ_eq h.symm]; rfl
  · rw [e, cmpQ_lt h]
theorem cmp_zero (x y : Rat) : cmpQ x y = 0 ↔ x = y := by
  rcases cmpQ_cases x y with ⟨h, e⟩ | ⟨h, e⟩ | ⟨h, e⟩ <;> rw [e]
  · exact ⟨fun h => by omega, fun h' => by subst h'; exact absurd h Rat.lt_irrefl⟩
  · exact ⟨fun _ => h, fun _ => rfl⟩
  · exact ⟨fun h => by omega, fun h' => by subst h'; exact absurd h Rat.lt_irrefl⟩
theorem cmp_le (x y : Rat) : cmpQ x y ≤ 0 ↔ x ≤ y := by
  rcases cmpQ_cases x y with ⟨h, e⟩ | ⟨h, e⟩ | ⟨h, e⟩ <;> rw [e]
  · exact ⟨fun _ => Rat.le_of_lt h, fun _ => by decide⟩
  · exact ⟨fun _ => by rw [h]; exact Rat.le_refl, fun _ => by decide⟩
  · exact ⟨fun h => by omega, fun h' => absurd h (Rat.not_lt.2 h')⟩
theorem cmp_lt (x y : Rat) : cmpQ x y < 0 ↔ x < y := by
  rcases cmpQ_cases x y with ⟨h, e⟩ | ⟨h, e⟩ | ⟨h, e⟩ <;> rw [e]
  · exact ⟨fun _ => h, fun _ => by decide⟩
  · exact ⟨fun h => by omega, fun h' => by subst h; exact absurd h' Rat.lt_irrefl⟩
  · exact ⟨fun h => by omega, fun h' => by grind⟩
theorem cmp_bd (x y : Rat) : -1 ≤ cmpQ x y ∧ cmpQ x y ≤ 1 := by
  rcases cmpQ_cases x y with ⟨_, e⟩ | ⟨_, e⟩ | ⟨_, e⟩ <;> rw [e] <;> decide
theorem cmp_congr {x y u v : Rat} (h1 : x < y → u < v) (h2 : y < x → v < u) (h3 : x = y → u = v) : cmpQ u v = cmpQ x y := by
  rcases cmpQ_cases x y with ⟨h, e⟩ | ⟨h, e⟩ | ⟨h, e⟩ <;> rw [e]
  · exact cmpQ_lt (h1 h)
  · exact cmpQ_eq (h3 h)
  · exact cmpQ_gt (h2 h)
theorem cmp_sub (x y : Rat) : cmpQ (x - y) 0 = cmpQ x y := cmp_congr (fun h => by grind) (fun h => by grind) (fun h => by grind)
theorem cmp_add (x y t : Rat) : cmpQ (x + t) (y + t) = cmpQ x y := cmp_congr (fun h => by grind) (fun h => by grind) (fun h => by grind)
theorem cmp_mul (x y t : Rat) : cmpQ (x * t) (y * t) = cmpQ x y * cmpQ t 0 := by
  rcases cmpQ_cases t 0 with ⟨h, e⟩ | ⟨h, e⟩ | ⟨h, e⟩ <;> rw [e]
  · have hn : 0 < -t := by grind
    have : cmpQ (x * t) (y * t) = - cmpQ x y := by
      rw [← cmp_neg]
      refine cmp_congr (fun h' => ?_) (fun h' => ?_) (fun h' => by rw [h'])
      · have := Rat.mul_lt_mul_of_pos_right h' hn; grind
      · have := Rat.mul_lt_mul_of_pos_right h' hn; grind
    rw [this]; omega
  · rw [h, Rat.mul_zero, Rat.mul_zero, cmpQ_eq rfl]; omega
  · rw [cmp_congr (x := x) (y := y) (fun h' => Rat.mul_lt_mul_of_pos_right h' h) (fun h' => Rat.mul_lt_mul_of_pos_right h' h) (fun h' => by rw [h'])]; omega
theorem same_iff (x y : Rat) : (Lib.itoa x.num == Lib.itoa y.num && Lib.itoa (x.den : Int) == Lib.itoa (y.den : Int)) = decide (x = y) := by
  by_cases h : x = y
  · subst h; simp
  · rw [decide_eq_false h, Bool.eq_false_iff]
    intro hc
    simp only [Bool.and_eq_true, beq_iff_eq] at hc
    exact h (rat_ext (itoa_inj hc.1) (by have := itoa_inj hc.2; omega))
theorem k_cmp2 {s t : R3} {x y : Rat} {c : Int} {w : World} (hs : s = rQ x) (ht : t = rQ y) (hx : RB x) (hy : RB y) (hc : cmpQ x y = c) (hT : Tab w) :
    Calls Tryz.prog 23 #[.agg #[str s.1, str s.2.1], .agg #[str t.1, str t.2.1]] w (Ret fun r w' => Ext w w' ∧ r = .int .i64 c) := by
  subst hs; subst ht; subst hc
  exact k_cmpq hx hy hT
theorem k_cmp1 {s : R3} {x : Rat} {c : Int} {w : World} (hs : s = rQ x) (hx : RB x) (hc : cmpQ x 0 = c) (hT : Tab w) :
    Calls Tryz.prog 23 #[.agg #[str s.1, str s.2.1], .agg #[str [48], str [49]]] w (Ret fun r w' => Ext w w' ∧ r = .int .i64 c) := by
  have := k_cmp2 (t := rQ 0) (w := w) hs rfl hx rb0 hc hT
  have e : (.agg #[str (rQ 0).1, str (rQ 0).2.1] : Value) = .agg #[str [48], str [49]] := fq0
  rwa [e] at this
def ord2 (P : Program) (t10 t11 t13 t34 t23 t19 t21 : Value) (w : World) (R : Ending → World → Prop) : Prop :=
  (Ld P 23 t10 w fun t134 w =>
  Ld P 23 t13 w fun t135 w =>
  Cl P 25 #[t134, t135] w (Pk R) fun t136 w =>
  Ex t136 0 w fun t137 w =>
  Ex t136 1 w fun t138 w =>
  Sto P 23 t19 t137 w fun w =>
  Ld P 23 t11 w fun t140 w =>
  Ld P 23 t13 w fun t141 w =>
  Cl P 25 #[t140, t141] w (Pk R) fun t142 w =>
  Ex t142 0 w fun t143 w =>
  Ex t142 1 w fun t144 w =>
  Sto P 23 t21 t143 w fun w =>
  GdP t23 true (fun k => k t138) fun t147 =>
  GdP t23 true (fun k => Dv P true (bn .neq 30 true t147 (.int .i64 0)) w.drew k) fun t148 =>
  GdP t23 true (fun k => k t148) fun t149 =>
  GdP t149 false (fun k => k t144) fun t150 =>
  GdP t149 false (fun k => Dv P true (bn .neq 30 true t150 (.int .i64 0)) w.drew k) fun t151 =>
  GdP t23 true (fun k => PickP t149 (.bool true) t151 k) fun t152 =>
  GdP t23 true (fun k => k t152) fun t153 =>
  GdP t153 false (fun k => Dv P false (Instr.loadAt 23 t19) w.drew k) fun t154 =>
  GdP t153 false (fun k => Dv P false (Instr.loadAt 23 t21) w.drew k) fun t155 =>
  GdP t153 false (fun k => k t34) fun t157 =>
  GdP t153 false (fun k => Dv P false (Instr.loadAt 23 t13) w.drew k) fun t158 =>
  Gd t153 false (fun k => Cl P 23 #[t154, t155] w.drew (Pk R) k) w.drew fun t156 w =>
  Kg t153 false P (Instr.loadAt 23 t13) t158 w <|
  Gd t153 false (fun k => Cl P 24 #[(str [48]), (str [49])] w (Pk R) k) w fun t159 w =>
  Kg t153 false P (Instr.loadAt 23 t13) t158 w <|
  Gd t153 false (fun k => Cl P 23 #[t158, t159] w (Pk R) k) w fun t160 w =>
  GdP t153 false (fun k => Dv P true (bn .mul 3 false t157 t160) w k) fun t161 =>
  GdP t153 false (fun k => Dv P true (bn .eql 3 false t156 t161) w k) fun t162 =>
  GdP t23 true (fun k => PickP t153 (.bool true) t162 k) fun t163 =>
  PickP t23 t163 (.bool false) fun t164 =>
  R (.returned t164) w)
def ord1 (P : Program) (t10 t11 t13 t34 t23 : Value) (w : World) (R : Ending → World → Prop) : Prop :=
  (Ld P 23 t10 w fun t109 w =>
  Ld P 23 t13 w fun t110 w =>
  Cl P 27 #[t109, t110] w (Pk R) fun t111 w =>
  Ex t111 0 w fun t112 w =>
  Ex t111 1 w fun t113 w =>
  Al P 23 w fun t19 w =>
  Sto P 23 t19 t112 w fun w =>
  Ld P 23 t11 w fun t115 w =>
  Ld P 23 t13 w fun t116 w =>
  Cl P 27 #[t115, t116] w (Pk R) fun t117 w =>
  Ex t117 0 w fun t118 w =>
  Ex t117 1 w fun t119 w =>
  Al P 23 w fun t21 w =>
  Sto P 23 t21 t118 w fun w =>
  Bn P .eql 30 true t113 (.int .i64 0) w fun t121 w =>
  Gd t121 true (fun k => k t119 w) w fun t123 w =>
  Gd t121 true (fun k => Bn P .eql 30 true t123 (.int .i64 0) w k) w fun t124 w =>
  Pick t121 t124 (.bool false) w fun t125 w =>
  Gd t125 true (fun k => Ld P 23 t19 w k) w fun t127 w =>
  Gd t125 true (fun k => Ld P 23 t21 w k) w fun t128 w =>
  Gd t125 true (fun k => Cl P 23 #[t127, t128] w (Pk R) k) w fun t129 w =>
  Gd t125 true (fun k => k t34 w) w fun t130 w =>
  Gd t125 true (fun k => Bn P .neq 3 false t129 t130 w k) w fun t131 w =>
  Pick t125 t131 (.bool false) w fun t132 w =>
  If t132
  (R (.returned (.bool false)) w)
  (Ld P 23 t10 w fun t134 w =>
  Ld P 23 t13 w fun t135 w =>
  Cl P 25 #[t134, t135] w (Pk R) fun t136 w =>
  Ex t136 0 w fun t137 w =>
  Ex t136 1 w fun t138 w =>
  Sto P 23 t19 t137 w fun w =>
  Ld P 23 t11 w fun t140 w =>
  Ld P 23 t13 w fun t141 w =>
  Cl P 25 #[t140, t141] w (Pk R) fun t142 w =>
  Ex t142 0 w fun t143 w =>
  Ex t142 1 w fun t144 w =>
  Sto P 23 t21 t143 w fun w =>
  GdP t23 true (fun k => k t138) fun t147 =>
  GdP t23 true (fun k => Dv P true (bn .neq 30 true t147 (.int .i64 0)) w.drew k) fun t148 =>
  GdP t23 true (fun k => k t148) fun t149 =>
  GdP t149 false (fun k => k t144) fun t150 =>
  GdP t149 false (fun k => Dv P true (bn .neq 30 true t150 (.int .i64 0)) w.drew k) fun t151 =>
  GdP t23 true (fun k => PickP t149 (.bool true) t151 k) fun t152 =>
  GdP t23 true (fun k => k t152) fun t153 =>
  GdP t153 false (fun k => Dv P false (Instr.loadAt 23 t19) w.drew k) fun t154 =>
  GdP t153 false (fun k => Dv P false (Instr.loadAt 23 t21) w.drew k) fun t155 =>
  GdP t153 false (fun k => k t34) fun t157 =>
  GdP t153 false (fun k => Dv P false (Instr.loadAt 23 t13) w.drew k) fun t158 =>
  Gd t153 false (fun k => Cl P 23 #[t154, t155] w.drew (Pk R) k) w.drew fun t156 w =>
  Kg t153 false P (Instr.loadAt 23 t13) t158 w <|
  Gd t153 false (fun k => Cl P 24 #[(str [48]), (str [49])] w (Pk R) k) w fun t159 w =>
  Kg t153 false P (Instr.loadAt 23 t13) t158 w <|
  Gd t153 false (fun k => Cl P 23 #[t158, t159] w (Pk R) k) w fun t160 w =>
  GdP t153 false (fun k => Dv P true (bn .mul 3 false t157 t160) w k) fun t161 =>
  GdP t153 false (fun k => Dv P true (bn .eql 3 false t156 t161) w k) fun t162 =>
  GdP t23 true (fun k => PickP t153 (.bool true) t162 k) fun t163 =>
  PickP t23 t163 (.bool false) fun t164 =>
  R (.returned t164) w))
set_option maxHeartbeats 2000000 in
theorem order_mul {x y t : Rat} {A B : R3} (hA : mulQ x t = A) (hBq : mulQ y t = B) {p : Int} {w W : World} {g10 g11 g13 : Nat} (hx : RB x) (hy : RB y) (ht : RB t) (hp : p = cmpQ x y) (hT : Tab w) (xx : Ext w W) (k10 : w.heap.size ≤ g10) (k11 : w.heap.size ≤ g11) (k13 : w.heap.size ≤ g13) (n10x11 : g10 ≠ g11) (n10x13 : g10 ≠ g13) (n11x13 : g11 ≠ g13)
    (b10 : Blk W g10 tR [str (Lib.itoa x.num), str (Lib.itoa (x.den : Int))]) (b11 : Blk W g11 tR [str (Lib.itoa y.num), str (Lib.itoa (y.den : Int))]) (b13 : Blk W g13 tR [str (Lib.itoa t.num), str (Lib.itoa (t.den : Int))]) {g19 g21 : Nat} {u0 u1 v0 v1 : List UInt8} (k19 : w.heap.size ≤ g19) (k21 : w.heap.size ≤ g21) (n10x19 : g10 ≠ g19) (n10x21 : g10 ≠ g21) (n11x19 : g11 ≠ g19) (n11x21 : g11 ≠ g21) (n13x19 : g13 ≠ g19) (n13x21 : g13 ≠ g21) (n19x21 : g19 ≠ g21)
    (b19 : Blk W g19 tR [str u0, str u1]) (b21 : Blk W g21 tR [str v0, str v1]) :
    ord2 Tryz.prog (pt g10) (pt g11) (pt g13) (.int .i64 p) (.bool true) (pt g19) (pt g21) W (Ret (fun r w' => Ext w w' ∧ r = .bool true)) := by
  unfold ord2
  have fM : A.2.2 = 0 → A = rQ (x * t) ∧ RB (x * t) := fun h => by rw [← hA] at h ⊢; exact mul_okE h
  have fN : B.2.2 = 0 → B = rQ (y * t) ∧ RB (y * t) := fun h => by rw [← hBq] at h ⊢; exact mul_okE h
  have cM := fun (w : World) (hT : Tab w) => hA ▸ k_mul (w := w) hx ht hT
  have cN := fun (w : World) (hT : Tab w) => hBq ▸ k_mul (w := w) hy ht hT
  refine ldR b10 (ldR b13 ?_)
  refine Cl2 n_rational_Mul (cM _ (hT.ext xx)) fun w51 x51 => ?_
  replace b10 := b10.ext x51
  replace b11 := b11.ext x51
  replace b13 := b13.ext x51
  replace b19 := b19.ext x51
  replace b21 := b21.ext x51
  replace xx := xx.tr x51
  refine stoR b19 fun w52 o52 b19 => ?_
  replace b10 := blkOwn b10 n10x19 o52
  replace b11 := blkOwn b11 n11x19 o52
  replace b13 := blkOwn b13 n13x19 o52
  replace b21 := blkOwn b21 n19x21.symm o52
  replace xx := o52.ext xx k19
  refine ldR b11 (ldR b13 ?_)
  refine Cl2 n_rational_Mul (cN _ (hT.ext xx)) fun w53 x53 => ?_
  replace b10 := b10.ext x53
  replace b11 := b11.ext x53
  replace b13 := b13.ext x53
  replace b19 := b19.ext x53
  replace b21 := b21.ext x53
  replace xx := xx.tr x53
  refine stoR b21 fun w54 o54 b21 => ?_
  replace b10 := blkOwn b10 n10x21 o54
  replace b11 := blkOwn b11 n11x21 o54
  replace b13 := blkOwn b13 n13x21 o54
  replace b19 := blkOwn b19 n19x21 o54
  replace xx := o54.ext xx k21
  refine GdP_T (GdP_T ?_)
  by_cases a1 : A.2.2 = 0
  · refine Dv_neF a1 ?_
    refine GdP_T (GdP_F (GdP_F ?_))
    by_cases a2 : B.2.2 = 0
    · have f1 := fM a1
      have f2 := fN a2
      refine Dv_neF a2 ?_
      refine GdP_T (PickP_F (GdP_T ?_))
      refine GdP_F (dR2x0 (w := w54.drew) b19 (GdP_F (dR2x0 (w := w54.drew) b21 (GdP_F (GdP_F (dR2x0 (w := w54.drew) b13 ?_))))))
      refine Gd_F ?_
      refine Cl1 n_rational_Compare (k_cmp2 f1.1 f2.1 f1.2 f2.2 (cmp_mul x y t) (hT.ext xx.dr)) fun w55 x55 => ?_
      replace x55 : Ext w54 w55 := (Ext.refl w54).dr.tr x55
      replace b10 := b10.ext x55
      replace b11 := b11.ext x55
      replace b13 := b13.ext x55
      replace b19 := b19.ext x55
      replace b21 := b21.ext x55
      replace xx := xx.tr x55
      refine Kg_F (kR2x0 b13 (Gd_F ?_))
      refine Cl1 n_law04_is c_is fun w56 x56 => ?_
      replace b10 := b10.ext x56
      replace b11 := b11.ext x56
      replace b13 := b13.ext x56
      replace b19 := b19.ext x56
      replace b21 := b21.ext x56
      replace xx := xx.tr x56
      refine Kg_F (kR2x0 b13 (Gd_F ?_))
      have c0 := k_cmp1 (s := rQ t) (w := w56) rfl ht rfl (hT.ext xx)
      refine Cl1 n_rational_Compare c0 fun w57 x57 => ?_
      replace b10 := b10.ext x57
      replace b11 := b11.ext x57
      replace b13 := b13.ext x57
      replace b19 := b19.ext x57
      replace b21 := b21.ext x57
      replace xx := xx.tr x57
      have q1 := cmp_bd x y
      have q2 := cmp_bd t 0
      have q3 : -1 ≤ p * cmpQ t 0 ∧ p * cmpQ t 0 ≤ 1 := by rw [hp, ← cmp_mul]; exact cmp_bd _ _
      refine GdP_F (Dv_mu (by omega) (by omega) ?_)
      refine GdP_F (Dv_eqT (by rw [hp]) ?_)
      refine GdP_T (PickP_F (PickP_T ?_))
      exact Ret.mk ⟨xx, rfl⟩
    · refine Dv_neT (by omega) ?_
      refine GdP_T (PickP_F (GdP_T ?_))
      refine GdP_TF (GdP_TF (GdP_TF (GdP_TF (Gd_TF ?_))))
      refine Kg_TF (Gd_TF (Kg_TF (Gd_TF (GdP_TF (GdP_TF (GdP_T (PickP_T (PickP_T ?_))))))))
      exact Ret.mk ⟨xx.dr, rfl⟩
  · refine Dv_neT (by omega) ?_
    refine GdP_T (GdP_TF (GdP_TF (GdP_T (PickP_T (GdP_T ?_)))))
    refine GdP_TF (GdP_TF (GdP_TF (GdP_TF (Gd_TF ?_))))
    refine Kg_TF (Gd_TF (Kg_TF (Gd_TF (GdP_TF (GdP_TF (GdP_T (PickP_T (PickP_T ?_))))))))
    exact Ret.mk ⟨xx.dr, rfl⟩
set_option maxHeartbeats 2000000 in
theorem order_add {x y t : Rat} {A B : R3} (hA : addQ x t = A) (hBq : addQ y t = B) {p : Int} {w W : World} {g10 g11 g13 : Nat} (hx : RB x) (hy : RB y) (ht : RB t) (hp : p = cmpQ x y) (hT : Tab w) (xx : Ext w W) (k10 : w.heap.size ≤ g10) (k11 : w.heap.size ≤ g11) (k13 : w.heap.size ≤ g13) (n10x11 : g10 ≠ g11) (n10x13 : g10 ≠ g13) (n11x13 : g11 ≠ g13)
    (b10 : Blk W g10 tR [str (Lib.itoa x.num), str (Lib.itoa (x.den : Int))]) (b11 : Blk W g11 tR [str (Lib.itoa y.num), str (Lib.itoa (y.den : Int))]) (b13 : Blk W g13 tR [str (Lib.itoa t.num), str (Lib.itoa (t.den : Int))]) :
    ord1 Tryz.prog (pt g10) (pt g11) (pt g13) (.int .i64 p) (.bool true) W (Ret (fun r w' => Ext w w' ∧ r = .bool true)) := by
  unfold ord1
  have fM : A.2.2 = 0 → A = rQ (x + t) ∧ RB (x + t) := fun h => by rw [← hA] at h ⊢; exact add_okE h
  have fN : B.2.2 = 0 → B = rQ (y + t) ∧ RB (y + t) := fun h => by rw [← hBq] at h ⊢; exact add_okE h
  have cM := fun (w : World) (hT : Tab w) => hA ▸ k_add (w := w) hx ht hT
  have cN := fun (w : World) (hT : Tab w) => hBq ▸ k_add (w := w) hy ht hT
  refine ldR b10 (ldR b13 ?_)
  refine Cl2 n_rational_Add (cM _ (hT.ext xx)) fun w51 x51 => ?_
  replace b10 := b10.ext x51
  replace b11 := b11.ext x51
  replace b13 := b13.ext x51
  replace xx := xx.tr x51
  have z10 := b10.lt
  have z11 := b11.lt
  have z13 := b13.lt
  refine alR fun g19 w52 x52 hg19 hl19 b19 => ?_
  have k19 : w.heap.size ≤ g19 := by have := xx.size; omega
  have n10x19 : g10 ≠ g19 := by omega
  clear z10
  have n11x19 : g11 ≠ g19 := by omega
  clear z11
  have n13x19 : g13 ≠ g19 := by omega
  clear z13
  replace b10 := b10.ext x52
  replace b11 := b11.ext x52
  replace b13 := b13.ext x52
  replace xx := xx.tr x52
  clear hg19 hl19
  refine stoR b19 fun w53 o53 b19 => ?_
  replace b10 := blkOwn b10 n10x19 o53
  replace b11 := blkOwn b11 n11x19 o53
  replace b13 := blkOwn b13 n13x19 o53
  replace xx := o53.ext xx k19
  refine ldR b11 (ldR b13 ?_)
  refine Cl2 n_rational_Add (cN _ (hT.ext xx)) fun w54 x54 => ?_
  replace b10 := b10.ext x54
  replace b11 := b11.ext x54
  replace b13 := b13.ext x54
  replace b19 := b19.ext x54
  replace xx := xx.tr x54
  have z10 := b10.lt
  have z11 := b11.lt
  have z13 := b13.lt
  have z19 := b19.lt
  refine alR fun g21 w55 x55 hg21 hl21 b21 => ?_
  have k21 : w.heap.size ≤ g21 := by have := xx.size; omega
  have n10x21 : g10 ≠ g21 := by omega
  clear z10
  have n11x21 : g11 ≠ g21 := by omega
  clear z11
  have n13x21 : g13 ≠ g21 := by omega
  clear z13
  have n19x21 : g19 ≠ g21 := by omega
  clear z19
  replace b10 := b10.ext x55
  replace b11 := b11.ext x55
  replace b13 := b13.ext x55
  replace b19 := b19.ext x55
  replace xx := xx.tr x55
  clear hg21 hl21
  refine stoR b21 fun w56 o56 b21 => ?_
  replace b10 := blkOwn b10 n10x21 o56
  replace b11 := blkOwn b11 n11x21 o56
  replace b13 := blkOwn b13 n13x21 o56
  replace b19 := blkOwn b19 n19x21 o56
  replace xx := o56.ext xx k21
  by_cases a1 : A.2.2 = 0
  · refine Bn_eqT a1 (Gd_T (Gd_T ?_))
    by_cases a2 : B.2.2 = 0
    · have f1 := fM a1
      have f2 := fN a2
      refine Bn_eqT a2 (Pick_T (Gd_T (ldR b19 (Gd_T (ldR b21 (Gd_T ?_))))))
      refine Cl1 n_rational_Compare (k_cmp2 f1.1 f2.1 f1.2 f2.2 (cmp_add x y t) (hT.ext xx)) fun w57 x57 => ?_
      replace b10 := b10.ext x57
      replace b11 := b11.ext x57
      replace b13 := b13.ext x57
      replace b19 := b19.ext x57
      replace b21 := b21.ext x57
      replace xx := xx.tr x57
      refine Gd_T (Gd_T (Bn_neF hp.symm (Pick_T (If_F ?_))))
      exact order_mul rfl rfl hx hy ht hp hT xx k10 k11 k13 n10x11 n10x13 n11x13 b10 b11 b13 k19 k21 n10x19 n10x21 n11x19 n11x21 n13x19 n13x21 n19x21 b19 b21
    · refine Bn_eqF (by omega) (Pick_T (Gd_FT (Gd_FT (Gd_FT (Gd_FT (Gd_FT (Pick_F (If_F ?_))))))))
      exact order_mul rfl rfl hx hy ht hp hT xx k10 k11 k13 n10x11 n10x13 n11x13 b10 b11 b13 k19 k21 n10x19 n10x21 n11x19 n11x21 n13x19 n13x21 n19x21 b19 b21
  · refine Bn_eqF (by omega) (Gd_FT (Gd_FT (Pick_F (Gd_FT (Gd_FT (Gd_FT (Gd_FT (Gd_FT (Pick_F (If_F ?_))))))))))
    exact order_mul rfl rfl hx hy ht hp hT xx k10 k11 k13 n10x11 n10x13 n11x13 b10 b11 b13 k19 k21 n10x19 n10x21 n11x19 n11x21 n13x19 n13x21 n19x21 b19 b21
set_option maxHeartbeats 2000000 in
theorem i_Order {p0 p1 p2 p3 q0 q1 q2 q3 r0 r1 r2 r3 s0 s1 : Int} {w : World} (rp0 : R64 p0) (rp1 : R64 p1) (rp2 : R64 p2) (rp3 : R64 p3) (rq0 : R64 q0) (rq1 : R64 q1) (rq2 : R64 q2) (rq3 : R64 q3) (rr0 : R64 r0) (rr1 : R64 r1) (rr2 : R64 r2) (rr3 : R64 r3) (rs0 : R64 s0) (rs1 : R64 s1) (hT : Tab w) (hM : MaxV w) :
    Calls Tryz.prog 9 #[.agg #[.int .i64 p0, .int .i64 p1, .int .i64 p2, .int .i64 p3], .agg #[.int .i64 q0, .int .i64 q1, .int .i64 q2, .int .i64 q3], .agg #[.int .i64 r0, .int .i64 r1, .int .i64 r2, .int .i64 r3], .agg #[.int .i64 s0, .int .i64 s1]] w (Ret fun r w' => Ext w w' ∧ r = .bool true) := by
  have hB : Tryz.prog.underlying 4 = some .bool := Tryz.underlying4
  have hs : RB (smallQ s0 s1) := (smallQ_SR s0 s1).rb (by decide) (by decide)
  apply e_law04_RationalOrder
  unfold s_law04_RationalOrder
  refine bxI4 fun g4 w1 x1 hg4 hl4 b4 => ?_
  have k4 : w.heap.size ≤ g4 := hg4
  have xx := x1
  clear hg4 hl4
  have z4 := b4.lt
  refine bxI4 fun g5 w2 x2 hg5 hl5 b5 => ?_
  have k5 : w.heap.size ≤ g5 := by have := xx.size; omega
  have n4x5 : g4 ≠ g5 := by omega
  clear z4
  replace b4 := b4.ext x2
  replace xx := xx.tr x2
  clear hg5 hl5
  have z4 := b4.lt
  have z5 := b5.lt
  refine bxI4 fun g6 w3 x3 hg6 hl6 b6 => ?_
  have k6 : w.heap.size ≤ g6 := by have := xx.size; omega
  have n4x6 : g4 ≠ g6 := by omega
  clear z4
  have n5x6 : g5 ≠ g6 := by omega
  clear z5
  replace b4 := b4.ext x3
  replace b5 := b5.ext x3
  replace xx := xx.tr x3
  clear hg6 hl6
  have z4 := b4.lt
  have z5 := b5.lt
  have z6 := b6.lt
  refine bxI2 fun g7 w4 x4 hg7 hl7 b7 => ?_
  have k7 : w.heap.size ≤ g7 := by have := xx.size; omega
  have n4x7 : g4 ≠ g7 := by omega
  clear z4
  have n5x7 : g5 ≠ g7 := by omega
  clear z5
  have n6x7 : g6 ≠ g7 := by omega
  clear z6
  replace b4 := b4.ext x4
  replace b5 := b5.ext x4
  replace b6 := b6.ext x4
  replace xx := xx.tr x4
  clear hg7 hl7
  refine Cl1 n_law04_sane (c_sane (hT.ext xx) (hM.ext xx)) fun w5 x5 => ?_
  replace b4 := b4.ext x5
  replace b5 := b5.ext x5
  replace b6 := b6.ext x5
  replace b7 := b7.ext x5
  replace xx := xx.tr x5
  refine ldI4 b4 ?_
  refine Cl_i n_ref04_Long (i_Long rp0 rp1 rp2 rp3) ?_
  rintro _ w6 ⟨x6, x, hx, rfl⟩
  replace b4 := b4.ext x6
  replace b5 := b5.ext x6
  replace b6 := b6.ext x6
  replace b7 := b7.ext x6
  replace xx := xx.tr x6
  have z4 := b4.lt
  have z5 := b5.lt
  have z6 := b6.lt
  have z7 := b7.lt
  refine alR fun g10 w7 x7 hg10 hl10 b10 => ?_
  have k10 : w.heap.size ≤ g10 := by have := xx.size; omega
  have n4x10 : g4 ≠ g10 := by omega
  clear z4
  have n5x10 : g5 ≠ g10 := by omega
  clear z5
  have n6x10 : g6 ≠ g10 := by omega
  clear z6
  have n7x10 : g7 ≠ g10 := by omega
  clear z7
  replace b4 := b4.ext x7
  replace b5 := b5.ext x7
  replace b6 := b6.ext x7
  replace b7 := b7.ext x7
  replace xx := xx.tr x7
  clear hg10 hl10
  refine stoR b10 fun w8 o8 b10 => ?_
  replace b4 := blkOwn b4 n4x10 o8
  replace b5 := blkOwn b5 n5x10 o8
  replace b6 := blkOwn b6 n6x10 o8
  replace b7 := blkOwn b7 n7x10 o8
  replace xx := o8.ext xx k10
  refine ldI4 b5 ?_
  refine Cl_i n_ref04_Long (i_Long rq0 rq1 rq2 rq3) ?_
  rintro _ w9 ⟨x9, y, hy, rfl⟩
  replace b4 := b4.ext x9
  replace b5 := b5.ext x9
  replace b6 := b6.ext x9
  replace b7 := b7.ext x9
  replace b10 := b10.ext x9
  replace xx := xx.tr x9
  have z4 := b4.lt
  have z5 := b5.lt
  have z6 := b6.lt
  have z7 := b7.lt
  have z10 := b10.lt
  refine alR fun g11 w10 x10 hg11 hl11 b11 => ?_
  have k11 : w.heap.size ≤ g11 := by have := xx.size; omega
  have n4x11 : g4 ≠ g11 := by omega
  clear z4
  have n5x11 : g5 ≠ g11 := by omega
  clear z5
  have n6x11 : g6 ≠ g11 := by omega
  clear z6
  have n7x11 : g7 ≠ g11 := by omega
  clear z7
  have n10x11 : g10 ≠ g11 := by omega
  clear z10
  replace b4 := b4.ext x10
  replace b5 := b5.ext x10
  replace b6 := b6.ext x10
  replace b7 := b7.ext x10
  replace b10 := b10.ext x10
  replace xx := xx.tr x10
  clear hg11 hl11
  refine stoR b11 fun w11 o11 b11 => ?_
  replace b4 := blkOwn b4 n4x11 o11
  replace b5 := blkOwn b5 n5x11 o11
  replace b6 := blkOwn b6 n6x11 o11
  replace b7 := blkOwn b7 n7x11 o11
  replace b10 := blkOwn b10 n10x11 o11
  replace xx := o11.ext xx k11
  refine ldI4 b6 ?_
  refine Cl_i n_ref04_Long (i_Long rr0 rr1 rr2 rr3) ?_
  rintro _ w12 ⟨x12, z, hz, rfl⟩
  replace b4 := b4.ext x12
  replace b5 := b5.ext x12
  replace b6 := b6.ext x12
  replace b7 := b7.ext x12
  replace b10 := b10.ext x12
  replace b11 := b11.ext x12
  replace xx := xx.tr x12
  have z4 := b4.lt
  have z5 := b5.lt
  have z6 := b6.lt
  have z7 := b7.lt
  have z10 := b10.lt
  have z11 := b11.lt
  refine alR fun g12 w13 x13 hg12 hl12 b12 => ?_
  have k12 : w.heap.size ≤ g12 := by have := xx.size; omega
  have n4x12 : g4 ≠ g12 := by omega
  clear z4
  have n5x12 : g5 ≠ g12 := by omega
  clear z5
  have n6x12 : g6 ≠ g12 := by omega
  clear z6
  have n7x12 : g7 ≠ g12 := by omega
  clear z7
  have n10x12 : g10 ≠ g12 := by omega
  clear z10
  have n11x12 : g11 ≠ g12 := by omega
  clear z11
  replace b4 := b4.ext x13
  replace b5 := b5.ext x13
  replace b6 := b6.ext x13
  replace b7 := b7.ext x13
  replace b10 := b10.ext x13
  replace b11 := b11.ext x13
  replace xx := xx.tr x13
  clear hg12 hl12
  refine stoR b12 fun w14 o14 b12 => ?_
  replace b4 := blkOwn b4 n4x12 o14
  replace b5 := blkOwn b5 n5x12 o14
  replace b6 := blkOwn b6 n6x12 o14
  replace b7 := blkOwn b7 n7x12 o14
  replace b10 := blkOwn b10 n10x12 o14
  replace b11 := blkOwn b11 n11x12 o14
  replace xx := o14.ext xx k12
  refine ldI2 b7 ?_
  refine Cl1 n_ref04_Small (c_Small rs0 rs1) fun w15 x15 => ?_
  replace b4 := b4.ext x15
  replace b5 := b5.ext x15
  replace b6 := b6.ext x15
  replace b7 := b7.ext x15
  replace b10 := b10.ext x15
  replace b11 := b11.ext x15
  replace b12 := b12.ext x15
  replace xx := xx.tr x15
  have z4 := b4.lt
  have z5 := b5.lt
  have z6 := b6.lt
  have z7 := b7.lt
  have z10 := b10.lt
  have z11 := b11.lt
  have z12 := b12.lt
  refine alR fun g13 w16 x16 hg13 hl13 b13 => ?_
  have k13 : w.heap.size ≤ g13 := by have := xx.size; omega
  have n4x13 : g4 ≠ g13 := by omega
  clear z4
  have n5x13 : g5 ≠ g13 := by omega
  clear z5
  have n6x13 : g6 ≠ g13 := by omega
  clear z6
  have n7x13 : g7 ≠ g13 := by omega
  clear z7
  have n10x13 : g10 ≠ g13 := by omega
  clear z10
  have n11x13 : g11 ≠ g13 := by omega
  clear z11
  have n12x13 : g12 ≠ g13 := by omega
  clear z12
  replace b4 := b4.ext x16
  replace b5 := b5.ext x16
  replace b6 := b6.ext x16
  replace b7 := b7.ext x16
  replace b10 := b10.ext x16
  replace b11 := b11.ext x16
  replace b12 := b12.ext x16
  replace xx := xx.tr x16
  clear hg13 hl13
  refine stoR b13 fun w17 o17 b13 => ?_
  replace b4 := blkOwn b4 n4x13 o17
  replace b5 := blkOwn b5 n5x13 o17
  replace b6 := blkOwn b6 n6x13 o17
  replace b7 := blkOwn b7 n7x13 o17
  replace b10 := blkOwn b10 n10x13 o17
  replace b11 := blkOwn b11 n11x13 o17
  replace b12 := blkOwn b12 n12x13 o17
  replace xx := o17.ext xx k13
  replace hx := hx.rb (by decide) (by decide)
  replace hy := hy.rb (by decide) (by decide)
  replace hz := hz.rb (by decide) (by decide)
  refine ldR b10 (ldR b11 ?_)
  refine Cl1 n_rational_Compare (k_cmpq hx hy (hT.ext xx)) fun w18 x18 => ?_
  replace b4 := b4.ext x18
  replace b5 := b5.ext x18
  replace b6 := b6.ext x18
  replace b7 := b7.ext x18
  replace b10 := b10.ext x18
  replace b11 := b11.ext x18
  replace b12 := b12.ext x18
  replace b13 := b13.ext x18
  replace xx := xx.tr x18
  refine ldR b11 (ldR b12 ?_)
  refine Cl1 n_rational_Compare (k_cmpq hy hz (hT.ext xx)) fun w19 x19 => ?_
  replace b4 := b4.ext x19
  replace b5 := b5.ext x19
  replace b6 := b6.ext x19
  replace b7 := b7.ext x19
  replace b10 := b10.ext x19
  replace b11 := b11.ext x19
  replace b12 := b12.ext x19
  replace b13 := b13.ext x19
  replace xx := xx.tr x19
  refine ldR b10 (ldR b12 ?_)
  refine Cl1 n_rational_Compare (k_cmpq hx hz (hT.ext xx)) fun w20 x20 => ?_
  replace b4 := b4.ext x20
  replace b5 := b5.ext x20
  replace b6 := b6.ext x20
  replace b7 := b7.ext x20
  replace b10 := b10.ext x20
  replace b11 := b11.ext x20
  replace b12 := b12.ext x20
  replace b13 := b13.ext x20
  replace xx := xx.tr x20
  refine ldR b11 (ldR b10 ?_)
  refine Cl1 n_rational_Compare (k_cmpq hy hx (hT.ext xx)) fun w21 x21 => ?_
  replace b4 := b4.ext x21
  replace b5 := b5.ext x21
  replace b6 := b6.ext x21
  replace b7 := b7.ext x21
  replace b10 := b10.ext x21
  replace b11 := b11.ext x21
  replace b12 := b12.ext x21
  replace b13 := b13.ext x21
  replace xx := xx.tr x21
  have u1 := cmp_bd x y
  have u2 := cmp_neg x y
  have u3 := cmp_zero x y
  have u4 := cmp_le x y
  have u5 := cmp_le y z
  have u6 := cmp_le x z
  have u7 := cmp_lt y z
  have u8 := cmp_lt x z
  have v1 : cmpQ x y ≤ 0 → cmpQ y z ≤ 0 → cmpQ x z ≤ 0 := fun a b => u6.2 (Rat.le_trans (u4.1 a) (u5.1 b))
  have v2 : cmpQ x y ≤ 0 → cmpQ y z < 0 → cmpQ x z < 0 := fun a b => u8.2 (by have := u4.1 a; have := u7.1 b; grind)
  clear u4 u5 u6 u7 u8
  refine Un_ng (by omega) (by omega) ?_
  refine Bn_neF u2 ?_
  refine Gd_F (Gd_F (eqD rfl (Gd_F (ldR b10 (Gd_F (ldR b11 (Gd_F (qEqD (same_iff x y) ?_))))))))
  refine Gd_F (Bn_neBF hB ?_ (Pick_F ?_))
  · rw [decide_eq_decide.2 u3]; exact bne_self_eq_false _
  refine Gd_F (Gd_F (Bn_ltF (by omega) (Pick_F ?_)))
  refine Gd_F (Gd_F (Bn_gtF (by omega) (Pick_F ?_)))
  refine Gd_F (ldR b10 (Gd_F (ldR b10 (Gd_F ?_))))
  refine Cl1 n_rational_Compare (k_cmpq hx hx (hT.ext xx)) fun w22 x22 => ?_
  replace b4 := b4.ext x22
  replace b5 := b5.ext x22
  replace b6 := b6.ext x22
  replace b7 := b7.ext x22
  replace b10 := b10.ext x22
  replace b11 := b11.ext x22
  replace b12 := b12.ext x22
  replace b13 := b13.ext x22
  replace xx := xx.tr x22
  refine Gd_F (Bn_neF (cmpQ_eq rfl) (Pick_F ?_))
  refine Gd_F (Gd_F (leD rfl (Gd_F ?_)))
  refine andh2 (fun _ K1 hK1 => leD rfl hK1) rfl ?_
  refine Gd_F ?_
  refine andh2 (fun _ K1 hK1 => gtD rfl hK1) (v := false) ?_ ?_
  · by_cases a1 : cmpQ x y ≤ 0 <;> by_cases a2 : cmpQ y z ≤ 0 <;> simp only [a1, a2, decide_true, decide_false, Bool.true_and, Bool.false_and, Bool.and_false]
    exact decide_eq_false (by have := v1 a1 a2; omega)
  refine Pick_F ?_
  refine Gd_F (Gd_F (leD rfl (Gd_F ?_)))
  refine andh2 (fun _ K1 hK1 => ltD rfl hK1) rfl ?_
  refine Gd_F ?_
  refine andh2 (fun _ K1 hK1 => geD rfl hK1) (v := false) ?_ ?_
  · by_cases a1 : cmpQ x y ≤ 0 <;> by_cases a2 : cmpQ y z < 0 <;> simp only [a1, a2, decide_true, decide_false, Bool.true_and, Bool.false_and, Bool.and_false]
    exact decide_eq_false (by have := v2 a1 a2; omega)
  refine Pick_F (If_F ?_)
  have fS := @sub_okE x y
  refine ldR b10 (ldR b11 ?_)
  refine Cl2 n_rational_Sub (k_sub hx hy (hT.ext xx)) fun w23 x23 => ?_
  replace b4 := b4.ext x23
  replace b5 := b5.ext x23
  replace b6 := b6.ext x23
  replace b7 := b7.ext x23
  replace b10 := b10.ext x23
  replace b11 := b11.ext x23
  replace b12 := b12.ext x23
  replace b13 := b13.ext x23
  replace xx := xx.tr x23
  have z4 := b4.lt
  have z5 := b5.lt
  have z6 := b6.lt
  have z7 := b7.lt
  have z10 := b10.lt
  have z11 := b11.lt
  have z12 := b12.lt
  have z13 := b13.lt
  refine alR fun g17 w24 x24 hg17 hl17 b17 => ?_
  have k17 : w.heap.size ≤ g17 := by have := xx.size; omega
  have n4x17 : g4 ≠ g17 := by omega
  clear z4
  have n5x17 : g5 ≠ g17 := by omega
  clear z5
  have n6x17 : g6 ≠ g17 := by omega
  clear z6
  have n7x17 : g7 ≠ g17 := by omega
  clear z7
  have n10x17 : g10 ≠ g17 := by omega
  clear z10
  have n11x17 : g11 ≠ g17 := by omega
  clear z11
  have n12x17 : g12 ≠ g17 := by omega
  clear z12
  have n13x17 : g13 ≠ g17 := by omega
  clear z13
  replace b4 := b4.ext x24
  replace b5 := b5.ext x24
  replace b6 := b6.ext x24
  replace b7 := b7.ext x24
  replace b10 := b10.ext x24
  replace b11 := b11.ext x24
  replace b12 := b12.ext x24
  replace b13 := b13.ext x24
  replace xx := xx.tr x24
  clear hg17 hl17
  refine stoR b17 fun w25 o25 b17 => ?_
  replace b4 := blkOwn b4 n4x17 o25
  replace b5 := blkOwn b5 n5x17 o25
  replace b6 := blkOwn b6 n6x17 o25
  replace b7 := blkOwn b7 n7x17 o25
  replace b10 := blkOwn b10 n10x17 o25
  replace b11 := blkOwn b11 n11x17 o25
  replace b12 := blkOwn b12 n12x17 o25
  replace b13 := blkOwn b13 n13x17 o25
  replace xx := o25.ext xx k17
  by_cases a1 : (subQ x y).2.2 = 0
  · have f1 := fS a1
    refine Dv_eqT a1 (GdP_T (dR2x0 (w := w25.drew) b17 (GdP_T (Gd_T ?_))))
    refine Cl1 n_law04_is c_is fun w26 x26 => ?_
    replace x26 : Ext w25 w26 := (Ext.refl w25).dr.tr x26
    replace b4 := b4.ext x26
    replace b5 := b5.ext x26
    replace b6 := b6.ext x26
    replace b7 := b7.ext x26
    replace b10 := b10.ext x26
    replace b11 := b11.ext x26
    replace b12 := b12.ext x26
    replace b13 := b13.ext x26
    replace b17 := b17.ext x26
    replace xx := xx.tr x26
    refine Kg_T (kR2x0 b17 (Gd_T ?_))
    refine Cl1 n_rational_Compare (k_cmp1 f1.1 f1.2 (cmp_sub x y) (hT.ext xx)) fun w27 x27 => ?_
    replace b4 := b4.ext x27
    replace b5 := b5.ext x27
    replace b6 := b6.ext x27
    replace b7 := b7.ext x27
    replace b10 := b10.ext x27
    replace b11 := b11.ext x27
    replace b12 := b12.ext x27
    replace b13 := b13.ext x27
    replace b17 := b17.ext x27
    replace xx := xx.tr x27
    refine GdP_T (Dv_neF rfl (PickP_T (If_F ?_)))
    exact order_add rfl rfl hx hy hs rfl hT xx k10 k11 k13 n10x11 n10x13 n11x13 b10 b11 b13
  · refine Dv_eqF (by omega) (GdP_FT (GdP_FT (Gd_FT (Kg_FT (Gd_FT (GdP_FT (PickP_F (If_F ?_))))))))
    exact order_add (W := w25.drew) rfl rfl hx hy hs rfl hT xx.dr k10 k11 k13 n10x11 n10x13 n11x13 b10 b11 b13
end Go.Proofs.YthpcmmfijelbaaaGreatDoor
