/-
  Contracts and plain lemmas. By an AI agent.
-/
import Derived.Test.YtnkmbjedcjcccaaGreatDoorLAmH
import Derived.Test.YtnkmbjedcjcccaaGreatDoorAmC
import Derived.Test.YtnkmbjedcjcccaaGreatDoorPlain
import Derived.Test.YtnkmbjedcjcccaaGreatDoorTyp
set_option linter.unusedSimpArgs false
set_option linter.unusedVariables false
set_option linter.unusedSectionVars false
namespace Go.Proofs.YtnkmbjedcjcccaaGreatDoor
open Go Go.Eng Go.Proofs Go.Num Go.RowKit
open Go.Alm (Ft Wt Sm VW VA dn fct obs obs1 rungs obsN fresh sumW RgI D60)
set_option maxRecDepth 100000
theorem mkW_d60 (x : I6) : D60 (mkW x).al := by
 show D60 (((1 : Int) : Rat) / ((alN (pickZ (x 3) 6) : Int) : Rat))
 generalize pickZ (x 3) 6 = k
 unfold alN
 repeat' split
 ·exact Alm.D60.div (e := 30) (by decide) (by decide)
 ·exact Alm.D60.div (e := 20) (by decide) (by decide)
 ·exact Alm.D60.div (e := 15) (by decide) (by decide)
 ·exact Alm.D60.div (e := 12) (by decide) (by decide)
 ·exact Alm.D60.div (e := 6) (by decide) (by decide)
 ·exact Alm.D60.div (e := 3) (by decide) (by decide)
theorem bud_d60 (b : Int) : D60 (bud b) := Alm.D60.div (e := 3) (by decide) (by decide)
structure SI (s : St) : Prop where
 rg : RgI s.ws s.rg
 d6 : ∀ w ∈ s.ws, D60 w.al
section
variable {n : Int} {B : Rat} {fl : List Ft} {s : St} (d : Dd)
theorem SI.doS (h : SI s) : SI (doS B fl d s) := by
 unfold Proofs.YtnkmbjedcjcccaaGreatDoor.doS
 split
 ·split
  ·refine ⟨h.rg.app _, fun w hw => ?_⟩
   rcases List.mem_append.1 hw with hw | hw
   ·exact h.d6 w hw
   ·rw [List.mem_singleton.1 hw]; exact mkW_d60 d.x
  ·exact h
 ·refine ⟨h.rg.obs _, fun w hw => ?_⟩
  obtain ⟨v, hv, rfl⟩ := List.mem_map.1 hw
  have := h.d6 v hv
  rw [(Alm.obs1_fix v v.th _).1]
  exact this
theorem doS_VB (hB : VB n B s.ws) (hn : 0 ≤ n) (hfl : VFs fl) : VB (n + fl.length) B (doS B fl d s).ws := by
 unfold doS
 split
 ·split
  ·next hc => exact (hB.reg (mkW_reg d.x) hn hc).mono (by omega)
  ·exact hB.mono (by omega)
 ·have h1 := hB.obs (part_VFs hfl (fromD d s.at') (toD d s.at' fl.length))
  have h2 := part_len fl (fromD d s.at') (toD d s.at' fl.length)
  exact h1.mono (by omega)
theorem doS_at (ha : s.at' ≤ fl.length) : (doS B fl d s).at' ≤ fl.length := by
 unfold doS
 split
 ·split
  ·exact ha
  ·exact ha
 ·show max s.at' (toD d s.at' fl.length) ≤ fl.length
  unfold toD
  split <;> omega
theorem doS_rg (hB : VB n B s.ws) : (doS B fl d s).rg.length ≤ s.rg.length + 12 := by
 have := hB.len
 unfold doS
 split
 ·split
  ·show s.rg.length ≤ _; omega
  ·omega
 ·show (s.rg ++ rungs s.ws _ 0).length ≤ _
  have h := Alm.rungs_len s.ws (obs s.ws (part fl (fromD d s.at') (toD d s.at' fl.length))) 0
  rw [List.length_append]
  omega
theorem doS_len : s.ws.length ≤ (doS B fl d s).ws.length := by
 unfold doS
 split
 ·split
  ·show s.ws.length ≤ (s.ws ++ _).length; rw [List.length_append]; omega
  ·omega
 ·show s.ws.length ≤ (obs s.ws _).length; rw [Alm.obs_len]; omega
theorem doS_same (h : (doS B fl d s).ws.length = s.ws.length) : sumW Alm.al (doS B fl d s).ws = sumW Alm.al s.ws := by
 unfold doS at h ⊢
 split at h
 ·next c =>
  rw [if_pos c]
  split at h
  ·have h : (s.ws ++ [fresh s.ws (mkW d.x)]).length = s.ws.length := h
   rw [List.length_append] at h
   have : [fresh s.ws (mkW d.x)].length = 1 := rfl
   omega
  ·next c2 => rw [if_neg c2]
 ·next c =>
  rw [if_neg c]
  exact sum_obs _ _
theorem doS_keep {k : Nat} {x y : Wt} (hx : s.ws[k]? = some x) (hy : (doS B fl d s).ws[k]? = some y) : (x.ru = true → y.we = x.we ∧ y.sn = x.sn ∧ y.ru = true) ∧ x.sn ≤ y.sn ∧ x.th ≤ y.th := by
 have same : x = y → (x.ru = true → y.we = x.we ∧ y.sn = x.sn ∧ y.ru = true) ∧ x.sn ≤ y.sn ∧ x.th ≤ y.th := by
  rintro rfl
  exact ⟨fun h => ⟨rfl, rfl, h⟩, Int.le_refl _, Int.le_refl _⟩
 unfold doS at hy
 split at hy
 ·split at hy
  ·have hy : (s.ws ++ [fresh s.ws (mkW d.x)])[k]? = some y := hy
   rw [List.getElem?_append_left (List.getElem?_eq_some_iff.1 hx).1, hx] at hy
   exact same (Option.some.inj hy)
  ·rw [hx] at hy
   exact same (Option.some.inj hy)
 ·have h1 := Alm.obs_get (l := part fl (fromD d s.at') (toD d s.at' fl.length)) hx
  have hy : (obs s.ws (part fl (fromD d s.at') (toD d s.at' fl.length)))[k]? = some y := hy
  rw [h1] at hy
  obtain rfl := Option.some.inj hy
  have := Alm.obs1_keep x.th (part fl (fromD d s.at') (toD d s.at' fl.length)) x
  exact ⟨this.1, this.2.1, this.2.2.1⟩
end
theorem D60.sr {x : Rat} (h : D60 x) (h0 : 0 ≤ x) (h1 : x ≤ 1) : SR 2 2 x := by
 obtain ⟨z, z0, z1, rfl⟩ := h.is h0 h1
 refine .of ?_ ?_ (by decide)
 ·unfold Sz; omega
 ·unfold Sz; decide
end Go.Proofs.YtnkmbjedcjcccaaGreatDoor
namespace Go.Proofs.YtnkmbjedcjcccaaGreatDoor
open Go Go.Eng
set_option maxRecDepth 100000
def s_law28_AlarmBudget_6 (P : Program) (t7 : Value) (t22 : Value) (k5 : Value → World → Prop) (w : World) (R : Ending → World → Prop) : Prop :=
 Fa P 35 t7 3 w fun t192 w =>
 Ld P 33 t192 w fun t193 w =>
 Bt P .len #[33] 3 #[t193] w fun t194 w =>
 Bn P .lss 3 false t22 t194 w fun t195 w =>
 If t195
 (Lp1 (.int .i64 0) w (fun t23 w k6 =>
 Bn P .lss 3 false t23 t22 w fun t200 w =>
 If t200
 (Dv P true (Instr.fieldAt 35 t7 3) w.drew fun t203 =>
 Dv P false (Instr.loadAt 33 t203) w.drew fun t204 =>
 Dv P true (Instr.indexAt 33 t204 t22) w.drew fun t206 =>
 Dv P false (Instr.loadAt 3 t206) w.drew fun t207 =>
 Dv P true (Instr.fieldAt 35 t7 3) w.drew fun t208 =>
 Dv P false (Instr.loadAt 33 t208) w.drew fun t209 =>
 Dv P true (Instr.indexAt 33 t209 t23) w.drew fun t211 =>
 Dv P false (Instr.loadAt 3 t211) w.drew fun t212 =>
 Dv P true (bn .eql 3 false t207 t212) w.drew fun t213 =>
 If t213
 (R (.returned (.bool false)) w.drew)
 (Bn P .add 3 true t23 (.int .i64 1) w.drew fun t202 w =>
 k6 t202 w))
 (Bn P .add 3 true t22 (.int .i64 1) w fun t197 w =>
 k5 t197 w)))
 (R (.returned (.bool true)) w)
def s_law28_AlarmBudget_5 (P : Program) (t7 : Value) (t190 : Value) (t9 : Value) (k1 : Value → World → Prop) (w : World) (R : Ending → World → Prop) : Prop :=
 Sto P 35 t7 t190 w fun w =>
 Bn P .add 3 true t9 (.int .i64 1) w fun t43 w =>
 k1 t43 w
def s_law28_AlarmBudget_4 (P : Program) (t7 : Value) (t169 : Value) (t10x2 : Value) (t14 : Value) (t12 : Value) (t9 : Value) (k1 : Value → World → Prop) (w : World) (R : Ending → World → Prop) : Prop :=
 Fa P 35 t7 0 w fun t170 w =>
 Fa P 28 t170 0 w fun t171 w =>
 Ld P 25 t171 w fun t172 w =>
 Bn P .neq 25 false t169 t172 w fun t173 w =>
 Gd t173 false (fun k => Fa P 35 t10x2 0 w k) w fun t175 w =>
 Gd t173 false (fun k => Fa P 28 t175 1 w k) w fun t176 w =>
 Gd t173 false (fun k => Ld P 26 t176 w k) w fun t177 w =>
 Gd t173 false (fun k => Bt P .len #[26] 3 #[t177] w k) w fun t178 w =>
 Gd t173 false (fun k => Fa P 35 t7 0 w k) w fun t179 w =>
 Gd t173 false (fun k => Fa P 28 t179 1 w k) w fun t180 w =>
 Gd t173 false (fun k => Ld P 26 t180 w k) w fun t181 w =>
 Gd t173 false (fun k => Bt P .len #[26] 3 #[t181] w k) w fun t182 w =>
 Gd t173 false (fun k => Bn P .eql 3 false t178 t182 w k) w fun t183 w =>
 Gd t173 false (fun k => k t183 w) w fun t184 w =>
 Gd t184 true (fun k => Ld P 25 t14 w k) w fun t185 w =>
 Gd t184 true (fun k => Ld P 25 t12 w k) w fun t186 w =>
 Gd t184 true (fun k => Bn P .neq 25 false t185 t186 w k) w fun t187 w =>
 Gd t173 false (fun k => Pick t184 t187 (.bool false) w k) w fun t188 w =>
 Pick t173 (.bool true) t188 w fun t189 w =>
 If t189
 (R (.returned (.bool false)) w)
 (Ld P 35 t10x2 w fun t190 w =>
 s_law28_AlarmBudget_5 P t7 t190 t9 k1 w R)
def s_law28_AlarmBudget_3 (P : Program) (t19 : Value) (t18x2 : Value) (t16 : Value) (t7 : Value) (t17 : Value) (t10x2 : Value) (k3 : Value → World → Prop) (w : World) (R : Ending → World → Prop) : Prop :=
 Bn P .neq 46 true t19 (.int .i64 0) w fun t114 w =>
 If t114
 (R (.returned (.bool false)) w)
 (Ld P 25 t18x2 w fun t115 w =>
 Sto P 25 t16 t115 w fun w =>
 Fa P 35 t7 0 w fun t117 w =>
 Fa P 28 t117 1 w fun t118 w =>
 Ld P 26 t118 w fun t119 w =>
 Bt P .len #[26] 3 #[t119] w fun t120 w =>
 Bn P .lss 3 false t17 t120 w fun t121 w =>
 If t121
 (Fa P 35 t7 0 w fun t122 w =>
 Fa P 28 t122 1 w fun t123 w =>
 Ld P 26 t123 w fun t124 w =>
 Ia P 26 t124 t17 w fun t126 w =>
 Ld P 30 t126 w fun t127 w =>
 Al P 30 w fun t20 w =>
 Sto P 30 t20 t127 w fun w =>
 Fa P 35 t10x2 0 w fun t128 w =>
 Fa P 28 t128 1 w fun t129 w =>
 Ld P 26 t129 w fun t130 w =>
 Ia P 26 t130 t17 w fun t132 w =>
 Ld P 30 t132 w fun t133 w =>
 Al P 30 w fun t21 w =>
 Sto P 30 t21 t133 w fun w =>
 Fa P 30 t20 10 w fun t134 w =>
 Ld P 4 t134 w fun t135 w =>
 Gd t135 true (fun k => Fa P 30 t21 9 w k) w fun t137 w =>
 Gd t135 true (fun k => Ld P 25 t137 w k) w fun t138 w =>
 Gd t135 true (fun k => Fa P 30 t20 9 w k) w fun t139 w =>
 Gd t135 true (fun k => Ld P 25 t139 w k) w fun t140 w =>
 Gd t135 true (fun k => Bn P .neq 25 false t138 t140 w k) w fun t141 w =>
 Gd t135 true (fun k => k t141 w) w fun t142 w =>
 Gd t142 false (fun k => Fa P 30 t21 8 w k) w fun t143 w =>
 Gd t142 false (fun k => Ld P 3 t143 w k) w fun t144 w =>
 Gd t142 false (fun k => Fa P 30 t20 8 w k) w fun t145 w =>
 Gd t142 false (fun k => Ld P 3 t145 w k) w fun t146 w =>
 Gd t142 false (fun k => Bn P .neq 3 false t144 t146 w k) w fun t147 w =>
 Gd t135 true (fun k => Pick t142 (.bool true) t147 w k) w fun t148 w =>
 Gd t135 true (fun k => k t148 w) w fun t149 w =>
 Gd t149 false (fun k => Fa P 30 t21 10 w k) w fun t150 w =>
 Gd t149 false (fun k => Ld P 4 t150 w k) w fun t151 w =>
 Gd t149 false (fun k => Un P .not t151 w k) w fun t152 w =>
 Gd t135 true (fun k => Pick t149 (.bool true) t152 w k) w fun t153 w =>
 Pick t135 t153 (.bool false) w fun t154 w =>
 Gd t154 false (fun k => Fa P 30 t21 8 w k) w fun t156 w =>
 Gd t154 false (fun k => Ld P 3 t156 w k) w fun t157 w =>
 Gd t154 false (fun k => Fa P 30 t20 8 w k) w fun t158 w =>
 Gd t154 false (fun k => Ld P 3 t158 w k) w fun t159 w =>
 Gd t154 false (fun k => Bn P .lss 3 false t157 t159 w k) w fun t160 w =>
 Pick t154 (.bool true) t160 w fun t161 w =>
 Gd t161 false (fun k => Fa P 30 t21 7 w k) w fun t163 w =>
 Gd t161 false (fun k => Ld P 3 t163 w k) w fun t164 w =>
 Gd t161 false (fun k => Fa P 30 t20 7 w k) w fun t165 w =>
 Gd t161 false (fun k => Ld P 3 t165 w k) w fun t166 w =>
 Gd t161 false (fun k => Bn P .lss 3 false t164 t166 w k) w fun t167 w =>
 Pick t161 (.bool true) t167 w fun t168 w =>
 If t168
 (R (.returned (.bool false)) w)
 (Bn P .add 3 true t17 (.int .i64 1) w fun t100 w =>
 k3 t100 w))
 (Bn P .add 3 true t17 (.int .i64 1) w fun t100x1 w =>
 k3 t100x1 w))
def s_law28_AlarmBudget_2 (P : Program) (t92 : Value) (t10x2 : Value) (t7 : Value) (t14 : Value) (t12 : Value) (t9 : Value) (k1 : Value → World → Prop) (w : World) (R : Ending → World → Prop) : Prop :=
 Al P 25 w fun t16 w =>
 Sto P 25 t16 t92 w fun w =>
 Lp1 (.int .i64 0) w (fun t17 w k3 =>
 Fa P 35 t10x2 0 w fun t94 w =>
 Fa P 28 t94 1 w fun t95 w =>
 Ld P 26 t95 w fun t96 w =>
 Bt P .len #[26] 3 #[t96] w fun t97 w =>
 Bn P .lss 3 false t17 t97 w fun t98 w =>
 If t98
 (Jn2 (fun k4 =>
 Dv P false (Instr.loadAt 25 t16) w.drew fun t102 =>
 Dv P true (Instr.fieldAt 35 t10x2 0) w.drew fun t103 =>
 Dv P true (Instr.fieldAt 28 t103 1) w.drew fun t104 =>
 Dv P false (Instr.loadAt 26 t104) w.drew fun t105 =>
 Dv P true (Instr.indexAt 26 t105 t17) w.drew fun t107 =>
 Dv P true (Instr.fieldAt 30 t107 4) w.drew fun t108 =>
 Dv P false (Instr.loadAt 25 t108) w.drew fun t109 =>
 (Cl P 35 #[t102, t109] w.drew (Pk R) fun t110 w =>
 ExP t110 0 fun t111 =>
 ExP t110 1 fun t112 =>
 Al P 25 w fun t18 w =>
 Ke P (Instr.loadAt 25 t16) t102 w <|
 Ke P (Instr.loadAt 26 t104) t105 w <|
 Ke P (Instr.loadAt 25 t108) t109 w <|
 Sto P 25 t18 t111 w fun w =>
 k4 t18 t112 w) ∧
 (Al P 25 w.drew fun t18x1 w =>
 Ke P (Instr.loadAt 25 t16) t102 w <|
 Ke P (Instr.loadAt 26 t104) t105 w <|
 Ke P (Instr.loadAt 25 t108) t109 w <|
 Cl P 35 #[t102, t109] w (Pk R) fun t110x1 w =>
 ExP t110x1 0 fun t111x1 =>
 ExP t110x1 1 fun t112x1 =>
 Sto P 25 t18x1 t111x1 w fun w =>
 k4 t18x1 t112x1 w))
 (fun t18x2 t19 w =>
 s_law28_AlarmBudget_3 P t19 t18x2 t16 t7 t17 t10x2 k3 w R))
 (Ld P 25 t16 w fun t169 w =>
 s_law28_AlarmBudget_4 P t7 t169 t10x2 t14 t12 t9 k1 w R))
def s_law28_AlarmBudget_1 (P : Program) (t7 : Value) (t10x2 : Value) (t11 : Value) (t9 : Value) (k1 : Value → World → Prop) (w : World) (R : Ending → World → Prop) : Prop :=
 Fa P 35 t7 0 w fun t54 w =>
 Ld P 28 t54 w fun t55 w =>
 Cl P 19 #[t55] w (Pk R) fun t56 w =>
 Ex t56 0 w fun t57 w =>
 Ex t56 1 w fun t58 w =>
 Al P 25 w fun t12 w =>
 Sto P 25 t12 t57 w fun w =>
 Fa P 35 t10x2 0 w fun t60 w =>
 Ld P 28 t60 w fun t61 w =>
 Cl P 19 #[t61] w (Pk R) fun t62 w =>
 Ex t62 0 w fun t63 w =>
 Ex t62 1 w fun t64 w =>
 Al P 25 w fun t14 w =>
 Sto P 25 t14 t63 w fun w =>
 Un P .not t11 w fun t66 w =>
 Gd t66 false (fun k => k t58 w) w fun t68 w =>
 Gd t66 false (fun k => Bn P .neq 46 true t68 (.int .i64 0) w k) w fun t69 w =>
 Pick t66 (.bool true) t69 w fun t70 w =>
 Gd t70 false (fun k => k t64 w) w fun t72 w =>
 Gd t70 false (fun k => Bn P .neq 46 true t72 (.int .i64 0) w k) w fun t73 w =>
 Pick t70 (.bool true) t73 w fun t74 w =>
 Gd t74 false (fun k => Fa P 35 t10x2 0 w k) w fun t76 w =>
 Gd t74 false (fun k => Ld P 28 t76 w k) w fun t77 w =>
 Gd t74 false (fun k => Cl P 13 #[t77] w (Pk R) k) w fun t78 w =>
 Gd t74 false (fun k => Un P .not t78 w k) w fun t79 w =>
 Pick t74 (.bool true) t79 w fun t80 w =>
 Gd t80 false (fun k => Fa P 35 t10x2 0 w k) w fun t82 w =>
 Gd t80 false (fun k => Fa P 28 t82 1 w k) w fun t83 w =>
 Gd t80 false (fun k => Ld P 26 t83 w k) w fun t84 w =>
 Gd t80 false (fun k => Bt P .len #[26] 3 #[t84] w k) w fun t85 w =>
 Gd t80 false (fun k => Fa P 35 t7 0 w k) w fun t86 w =>
 Gd t80 false (fun k => Fa P 28 t86 1 w k) w fun t87 w =>
 Gd t80 false (fun k => Ld P 26 t87 w k) w fun t88 w =>
 Gd t80 false (fun k => Bt P .len #[26] 3 #[t88] w k) w fun t89 w =>
 Gd t80 false (fun k => Bn P .lss 3 false t85 t89 w k) w fun t90 w =>
 Pick t80 (.bool true) t90 w fun t91 w =>
 If t91
 (R (.returned (.bool false)) w)
 (Ld P 25 t14 w fun t92 w =>
 s_law28_AlarmBudget_2 P t92 t10x2 t7 t14 t12 t9 k1 w R)
def s_law28_AlarmBudget_0 (P : Program) (t0 : Value) (t1 : Value) (t2 : Value) (w : World) (R : Ending → World → Prop) : Prop :=
 Cl P 9 #[] w (Pk R) fun t24 w =>
 Un P .not t24 w fun t25 w =>
 If t25
 (R (.returned (.bool false)) w)
 (Cl P 10 #[t0, t1] w (Pk R) fun t29 w =>
 Ex t29 0 w fun t30 w =>
 Ex t29 1 w fun t31 w =>
 Al P 35 w fun t7 w =>
 Sto P 35 t7 t30 w fun w =>
 Un P .not t31 w fun t33 w =>
 If t33
 (R (.returned (.bool false)) w)
 (Lp1 (.int .i64 0) w (fun t9 w k1 =>
 Bt P .len #[23] 3 #[t2] w fun t36 w =>
 Bn P .lss 3 false t9 t36 w fun t37 w =>
 Gd t37 true (fun k => k t9 w) w fun t39 w =>
 Gd t37 true (fun k => Bn P .lss 3 true t39 (.int .i64 15) w k) w fun t40 w =>
 Pick t37 t40 (.bool false) w fun t41 w =>
 If t41
 (Jn2 (fun k2 =>
 Dv P false (Instr.loadAt 35 t7) w.drew fun t45 =>
 Dv P true (Instr.indexAt 23 t2 t9) w.drew fun t48 =>
 Dv P false (Instr.loadAt 41 t48) w.drew fun t49 =>
 (Cl P 11 #[t45, t49] w.drew (Pk R) fun t50 w =>
 ExP t50 0 fun t51 =>
 ExP t50 1 fun t52 =>
 Al P 35 w fun t10 w =>
 Ke P (Instr.loadAt 35 t7) t45 w <|
 Ke P (Instr.loadAt 41 t48) t49 w <|
 Sto P 35 t10 t51 w fun w =>
 k2 t10 t52 w) ∧
 (Al P 35 w.drew fun t10x1 w =>
 Ke P (Instr.loadAt 35 t7) t45 w <|
 Ke P (Instr.loadAt 41 t48) t49 w <|
 Cl P 11 #[t45, t49] w (Pk R) fun t50x1 w =>
 ExP t50x1 0 fun t51x1 =>
 ExP t50x1 1 fun t52x1 =>
 Sto P 35 t10x1 t51x1 w fun w =>
 k2 t10x1 t52x1 w))
 (fun t10x2 t11 w =>
 s_law28_AlarmBudget_1 P t7 t10x2 t11 t9 k1 w R))
 (Lp1 (.int .i64 0) w (fun t22 w k5 =>
 s_law28_AlarmBudget_6 P t7 t22 k5 w R)))))
theorem u_law28_AlarmBudget {t0 t1 t2 : Value} {w : World} {R : Ending → World → Prop} (h : s_law28_AlarmBudget_0 Tryz.prog t0 t1 t2 w R) : s_law28_AlarmBudget Tryz.prog t0 t1 t2 w R := Eq.mp (by kernel_rfl) h
end Go.Proofs.YtnkmbjedcjcccaaGreatDoor
namespace Go.Proofs.YtnkmbjedcjcccaaGreatDoor
open Go Go.Eng Go.Proofs Go.Num Go.RowKit
open Go.Alm (Ft Wt Sm VW VA dn fct obs obs1 rungs obsN fresh sumW RgI D60)
set_option maxRecDepth 100000
section
variable {w0 : World} {R : Ending → World → Prop} {n : Int} {B : Rat} {v u lv rv rv' : Value} {ws ws' : List Wt} {g7 g10 at0 at1 i : Nat} {k1 : Value → World → Prop}
variable (hE : En w0) (hB : VB n B ws) (hB' : VB n B ws') (hn : 0 ≤ n ∧ n ≤ 1000000) (b7 : Blk w0 g7 tWd [str (tx B).1, str (tx B).2, v, lv, .int .i64 (at0 : Int), rv]) (b10 : Blk w0 g10 tWd [str (tx B).1, str (tx B).2, u, lv, .int .i64 (at1 : Int), rv'])
 (sv : SlC w0 15 v ws.length ((ws.map wr).flatMap fW)) (su : SlC w0 15 u ws'.length ((ws'.map wr).flatMap fW)) (hl : ws.length ≤ ws'.length)
 (hk : ∀ W, Ext w0 W → s_law28_AlarmBudget_5 Tryz.prog (pr g7 0) (vWd B u lv at1 rv') (.int .i64 (i : Int)) k1 W R)
include hE hB hB' hn b7 b10 sv su hl hk
theorem bd_4 {L0 L1 : Rat} {g12 g14 : Nat} (b12 : Blk w0 g12 tR (fR (tx L0))) (b14 : Blk w0 g14 tR (fR (tx L1))) (hL : ws'.length = ws.length → L1 = L0) :
 s_law28_AlarmBudget_4 Tryz.prog (pr g7 0) (.agg #[str (tx B).1, str (tx B).2]) (pr g10 0) (pr g14 0) (pr g12 0) (.int .i64 (i : Int)) k1 w0 R := by
 have h1 := hB.len
 have h2 := hB'.len
 by_cases hc : ws'.length = ws.length
 ·have e := hL hc
  subst e
  unfold s_law28_AlarmBudget_4
  have h := Hp.init [] w0
  refine faS (faS (lgA h ‹_› (by rfl) ?_))
  refine qNeS ?_
  refine Gd_F (faS (Gd_F (faS (Gd_F (lg1 h ‹_› (by rfl) ?_)))))
  refine Gd_F (leS (su.hp h) ?_)
  refine Gd_F (faS (Gd_F (faS (Gd_F (lg1 h ‹_› (by rfl) ?_)))))
  refine Gd_F (leS (sv.hp h) ?_)
  refine Gd_F (Bn_eqT (by omega) (Gd_F (Gd_T (lgA h ‹_› (by rfl) ?_))))
  refine Gd_T (lgA h ‹_› (by rfl) ?_)
  refine Gd_T (qNeS ?_)
  refine Gd_F (Pick_T (Pick_F (If_F (lgA h ‹_› (by rfl) ?_))))
  exact hk _ h.ext
 ·unfold s_law28_AlarmBudget_4
  have h := Hp.init [] w0
  refine faS (faS (lgA h ‹_› (by rfl) ?_))
  refine qNeS ?_
  refine Gd_F (faS (Gd_F (faS (Gd_F (lg1 h ‹_› (by rfl) ?_)))))
  refine Gd_F (leS (su.hp h) ?_)
  refine Gd_F (faS (Gd_F (faS (Gd_F (lg1 h ‹_› (by rfl) ?_)))))
  refine Gd_F (leS (sv.hp h) ?_)
  refine Gd_F (Bn_eqF (by omega) (Gd_F (Gd_FT (Gd_FT (Gd_FT (Gd_F (Pick_F (Pick_F (If_F (lgA h ‹_› (by rfl) ?_))))))))))
  exact hk _ h.ext
omit hk
set_option maxHeartbeats 16000000 in
theorem bd_3 {W : World} {k3 : Value → World → Prop} {S S' : Rat} {y : Wt} {g16 g18 j : Nat} (hy : ws'[j]? = some y) (hkp : ∀ x, ws[j]? = some x → (x.ru = true → y.we = x.we ∧ y.sn = x.sn ∧ y.ru = true) ∧ x.sn ≤ y.sn ∧ x.th ≤ y.th)
 (hk3 : ∀ W, Hp [] w0 W [bx g16 tR (fR (tx S'))] → k3 (.int .i64 ((j : Int) + 1)) W) (h : Hp [] w0 W [bx g18 tR (fR (tx S')), bx g16 tR (fR (tx S))]) :
 s_law28_AlarmBudget_3 Tryz.prog (.int .i64 0) (pr g18 0) (pr g16 0) (pr g7 0) (.int .i64 (j : Int)) (pr g10 0) k3 W R := by
 have h1 := hB.len
 have h2 := hB'.len
 have hj := (List.getElem?_eq_some_iff.1 hy).1
 have sy : Seg ((ws'.map wr).flatMap fW) (j * 15) (cT y) := flat_seg (f := fW) (fun _ => rfl) (l := ws'.map wr) (a := wr y) (by rw [List.getElem?_map, hy]; rfl)
 have vy := hB'.ok y (List.mem_of_getElem? hy)
 have y1 := vy.sn
 have y2 := vy.th
 have y3 := vy.st
 by_cases hjx : j < ws.length
 ·refine Exists.elim (p := fun x => ws[j]? = some x) ⟨_, List.getElem?_eq_getElem hjx⟩ fun x hx => ?_
  have sx : Seg ((ws.map wr).flatMap fW) (j * 15) (cT x) := flat_seg (f := fW) (fun _ => rfl) (l := ws.map wr) (a := wr x) (by rw [List.getElem?_map, hx]; rfl)
  have vx := hB.ok x (List.mem_of_getElem? hx)
  have x1 := vx.sn
  have x2 := vx.th
  have x3 := vx.st
  have kp := hkp x hx
  have kp2 := kp.2.1
  have kp3 := kp.2.2
  by_cases hr : x.ru = true
  ·have e := kp.1 hr
   have ex : cT x = cW x.op x.ve x.lim (tx x.mu) (tx x.al) (tx x.bet) x.st x.th x.sn (tx x.we) true := by rw [← hr]
   have ey : cT y = cW y.op y.ve y.lim (tx y.mu) (tx y.al) (tx y.bet) y.st y.th x.sn (tx x.we) true := by rw [← e.2.2, ← e.1, ← e.2.1]
   rw [ex] at sx
   rw [ey] at sy
   clear ex ey e kp hkp
   unfold s_law28_AlarmBudget_3
   refine Bn_neF (by omega) (If_F (ldA h 0 rfl rfl ?_))
   refine stA h 1 rfl rfl rfl rfl fun w h => ?_
   refine faS (faS (lg1 h ‹_› (by rfl) ?_))
   refine leS (sv.hp h) ?_
   refine Bn_ltT (by omega) (If_T (faS (faS (lg1 h ‹_› (by rfl) ?_))))
   refine iaH h ‹_› (by omega) fun zb zo zk zv zc => ?_
   refine lhA h ‹_› ‹_› (by rfl) ?_
   refine alS h fun g1 w h => ?_
   refine stA h 0 rfl rfl rfl rfl fun w h => ?_
   refine faS (faS (lg1 h ‹_› (by rfl) ?_))
   refine iaH h ‹_› (by omega) fun zb zo zk zv zc => ?_
   refine lhA h ‹_› ‹_› (by rfl) ?_
   refine alS h fun g2 w h => ?_
   refine stA h 0 rfl rfl rfl rfl fun w h => ?_
   refine faS (Eng.ld1 h 1 rfl rfl (Gd_T (faS (Gd_T (ldA h 0 rfl rfl ?_)))))
   refine Gd_T (faS (Gd_T (ldA h 1 rfl rfl ?_)))
   refine Gd_T (qNeS ?_)
   refine Gd_T (Gd_F (faS (Gd_F (Eng.ld1 h 0 rfl rfl (Gd_F (faS (Gd_F (Eng.ld1 h 1 rfl rfl (Gd_F (Bn_neF (by omega) (Gd_T (Pick_F (Gd_T (Gd_F (faS (Gd_F (Eng.ld1 h 0 rfl rfl (Gd_F (Un_T (Gd_T (Pick_F (Pick_T (Gd_F (faS (Gd_F (Eng.ld1 h 0 rfl rfl (Gd_F (faS (Gd_F (Eng.ld1 h 1 rfl rfl (Gd_F (Bn_ltF (by omega) (Pick_F (Gd_F (faS (Gd_F (Eng.ld1 h 0 rfl rfl (Gd_F (faS ?_)))))))))))))))))))))))))))))))))))))))
   refine Gd_F (Eng.ld1 h 1 rfl rfl (Gd_F (Bn_ltF (by omega) (Pick_F (If_F (Bn_ad (by omega) (by omega) ?_))))))
   dsimp only [List.set] at h
   exact hk3 _ (h.pick [3] (by decide) rfl)
  ·have ex : cT x = cW x.op x.ve x.lim (tx x.mu) (tx x.al) (tx x.bet) x.st x.th x.sn (tx x.we) false := by rw [← eq_false_of_ne_true hr]
   rw [ex] at sx
   clear ex kp hkp
   unfold s_law28_AlarmBudget_3
   refine Bn_neF (by omega) (If_F (ldA h 0 rfl rfl ?_))
   refine stA h 1 rfl rfl rfl rfl fun w h => ?_
   refine faS (faS (lg1 h ‹_› (by rfl) ?_))
   refine leS (sv.hp h) ?_
   refine Bn_ltT (by omega) (If_T (faS (faS (lg1 h ‹_› (by rfl) ?_))))
   refine iaH h ‹_› (by omega) fun zb zo zk zv zc => ?_
   refine lhA h ‹_› ‹_› (by rfl) ?_
   refine alS h fun g1 w h => ?_
   refine stA h 0 rfl rfl rfl rfl fun w h => ?_
   refine faS (faS (lg1 h ‹_› (by rfl) ?_))
   refine iaH h ‹_› (by omega) fun zb zo zk zv zc => ?_
   refine lhA h ‹_› ‹_› (by rfl) ?_
   refine alS h fun g2 w h => ?_
   refine stA h 0 rfl rfl rfl rfl fun w h => ?_
   refine faS (Eng.ld1 h 1 rfl rfl (Gd_FT (Gd_FT (Gd_FT (Gd_FT (Gd_FT (Gd_FT (Gd_U (Gd_U (Gd_U (Gd_U (Gd_U (Gd_FT (Gd_FT (Gd_U (Gd_U (Gd_U (Gd_FT (Pick_F (Gd_F (faS (Gd_F (Eng.ld1 h 0 rfl rfl (Gd_F (faS (Gd_F (Eng.ld1 h 1 rfl rfl (Gd_F (Bn_ltF (by omega) (Pick_F (Gd_F (faS (Gd_F (Eng.ld1 h 0 rfl rfl (Gd_F (faS (Gd_F (Eng.ld1 h 1 rfl rfl (Gd_F ?_)))))))))))))))))))))))))))))))))))))))
   refine Bn_ltF (by omega) (Pick_F (If_F (Bn_ad (by omega) (by omega) ?_)))
   dsimp only [List.set] at h
   exact hk3 _ (h.pick [3] (by decide) rfl)
 ·unfold s_law28_AlarmBudget_3
  refine Bn_neF (by omega) (If_F (ldA h 0 rfl rfl ?_))
  refine stA h 1 rfl rfl rfl rfl fun w h => ?_
  refine faS (faS (lg1 h ‹_› (by rfl) ?_))
  refine leS (sv.hp h) ?_
  refine Bn_ltF (by omega) (If_F (Bn_ad (by omega) (by omega) ?_))
  dsimp only [List.set] at h
  exact hk3 _ (h.pick [1] (by decide) rfl)
include hk
set_option maxHeartbeats 16000000 in
theorem bd_2 {L0 : Rat} {g12 g14 : Nat} (hd : ∀ w ∈ ws', D60 w.al) (hdB : D60 B) (hkp : ∀ (j : Nat) (x y : Wt), ws[j]? = some x → ws'[j]? = some y → (x.ru = true → y.we = x.we ∧ y.sn = x.sn ∧ y.ru = true) ∧ x.sn ≤ y.sn ∧ x.th ≤ y.th)
 (b12 : Blk w0 g12 tR (fR (tx L0))) (b14 : Blk w0 g14 tR (fR (tx (B - sumW Alm.al ws')))) (hL : ws'.length = ws.length → B - sumW Alm.al ws' = L0) :
 s_law28_AlarmBudget_2 Tryz.prog (vR (tx (B - sumW Alm.al ws'))) (pr g10 0) (pr g7 0) (pr g14 0) (pr g12 0) (.int .i64 (i : Int)) k1 w0 R := by
 have h1 := hB.len
 have h2 := hB'.len
 have hal0 : ∀ w ∈ ws', 0 ≤ w.al := fun w hw => (hB'.ok w hw).al.ge
 have hsp := hB'.sp
 have hB1 : B ≤ 1 := by have := hB'.b.le; exact_mod_cast this
 have hB0 := hB'.b.ge
 have hSR : ∀ j, SR 2 2 (B - sumW Alm.al ws' + sumW Alm.al (ws'.take j)) := fun j => by
  have a := Alm.sumW_le1 hal0 j
  have a1 : (0 : Rat) ≤ sumW Alm.al (ws'.take j) := a.1
  have a2 : sumW Alm.al (ws'.take j) ≤ sumW Alm.al ws' := a.2
  refine D60.sr ((hdB.sub (Alm.D60.sum hd)).add (Alm.D60.sum fun w hw => hd w (List.mem_of_mem_take hw))) ?_ ?_
  ·show 0 ≤ B - sumW Alm.al ws' + sumW Alm.al (ws'.take j); grind
  ·show B - sumW Alm.al ws' + sumW Alm.al (ws'.take j) ≤ 1; grind
 have hend : B - sumW Alm.al ws' + sumW Alm.al (ws'.take ws'.length) = B := by rw [List.take_length]; grind
 have hz : B - sumW Alm.al ws' + sumW Alm.al (ws'.take 0) = B - sumW Alm.al ws' := by
  show B - sumW Alm.al ws' + 0 = _; grind
 obtain ⟨F, hF⟩ : ∃ F : Nat → Rat, F = fun j => B - sumW Alm.al ws' + sumW Alm.al (ws'.take j) := ⟨_, rfl⟩
 have hF0 : F 0 = B - sumW Alm.al ws' := by rw [hF]; exact hz
 have hFe : F ws'.length = B := by rw [hF]; exact hend
 have hFs : ∀ j y, ws'[j]? = some y → F (j + 1) = F j + y.al := fun j y hy => by
  rw [hF]
  show B - sumW Alm.al ws' + sumW Alm.al (ws'.take (j + 1)) = B - sumW Alm.al ws' + sumW Alm.al (ws'.take j) + y.al
  rw [Alm.sumW_step hy]
  show _ + (_ + y.al) = _
  grind
 have hFr : ∀ j, SR 2 2 (F j) := fun j => by rw [hF]; exact hSR j
 rw [← hF0]
 clear hF hSR hend hz hF0
 unfold s_law28_AlarmBudget_2
 have h := Hp.init [] w0
 refine alS h fun g1 w h => ?_
 refine stA h 0 rfl rfl rfl rfl fun w h => ?_
 dsimp only [List.set] at h
 refine Lp1.mk (fun i W => ∃ j : Nat, j ≤ ws'.length ∧ i = .int .i64 j ∧ Hp [] w0 W [bx g1 tR (fR (tx (F j)))]) (fun i _ => match i with | .int _ i' => ws'.length - i'.toNat | _ => 0) ⟨0, by omega, rfl, h⟩ ?_
 clear h
 rintro _ W ⟨j, hj, rfl, h⟩
 by_cases hjl : j < ws'.length
 ·refine Exists.elim (p := fun y => ws'[j]? = some y) ⟨_, List.getElem?_eq_getElem hjl⟩ fun y hy => ?_
  have sy : Seg ((ws'.map wr).flatMap fW) (j * 15) (cT y) := flat_seg (f := fW) (fun _ => rfl) (l := ws'.map wr) (a := wr y) (by rw [List.getElem?_map, hy]; rfl)
  have vy := hB'.ok y (List.mem_of_getElem? hy)
  have e := hFs j y hy
  have s1 := hFr j
  have cc1 : ∀ {W : World}, Ext w0 W → Calls Tryz.prog 35 #[vR (tx (F j)), vR (tx y.al)] W (Ret fun r w' => Ext W w' ∧ r = .tuple #[vR (tx (F (j + 1))), .int .i64 0]) := fun {W} x => by
   rw [e]
   exact k_add (w := W) (k := 10) s1 (Sm.sr1 vy.al) (by decide) (by decide) (by decide) (by decide) (hE.hT.ext x)
  clear hFs hFr s1 e
  have kp := hkp j
  clear hkp
  refine faS (faS (lg1 h ‹_› (by rfl) ?_))
  refine leS (su.hp h) ?_
  refine Bn_ltT (by omega) (If_T ?_)
  refine Jn2.lfb tR (fR (tx (F (j + 1)))) (.int .i64 0) h (fun K lf1 => ?_) (fun gx w h => ?_)
  ·replace h := h.dr
   refine dlA h 0 rfl rfl ?_
   refine dfS (dfS (dg1 h ‹_› (by rfl) ?_))
   refine diH h ‹_› (by omega) fun zb zo zk zv zc => ?_
   refine dfS (dhP h ‹_› ‹_› (by rfl) ?_)
   refine ⟨?_, ?_⟩
   refine cl1 h n_rational_Add (cc1 h.ext) fun w h => ?_
   refine ExP2 (alS h fun g2 w h => ?_)
   refine klA h 1 rfl rfl ?_
   refine kg1 h ‹_› (by rfl) ?_
   refine khP h ‹_› ‹_› (by rfl) ?_
   refine stA h 0 rfl rfl rfl rfl fun w h => ?_
   exact lf1 _ _ h
   refine alS h fun g2 w h => ?_
   refine klA h 1 rfl rfl ?_
   refine kg1 h ‹_› (by rfl) ?_
   refine khP h ‹_› ‹_› (by rfl) ?_
   refine cl1 h n_rational_Add (cc1 h.ext) fun w h => ?_
   refine ExP2 (stA h 0 rfl rfl rfl rfl fun w h => ?_)
   exact lf1 _ _ h
  refine bd_3 hE hB hB' hn b7 b10 sv su hl (j := j) (y := y) hy (fun x hx => kp x y hx hy) (fun W' h' => ?_) h
  exact ⟨⟨j + 1, by omega, rfl, h'⟩, by show ws'.length - ((j : Int) + 1).toNat < ws'.length - (j : Int).toNat; omega⟩
 ·have e : F j = B := by rw [show j = ws'.length by omega]; exact hFe
  rw [e] at h
  clear hFs hFr hFe e hkp
  refine faS (faS (lg1 h ‹_› (by rfl) ?_))
  refine leS (su.hp h) ?_
  refine Bn_ltF (by omega) (If_F (ldA h 0 rfl rfl ?_))
  exact bd_4 (hE.ext h.ext) hB hB' hn (b7.ext h.ext) (b10.ext h.ext) (sv.ext h.ext) (su.ext h.ext) hl (fun W e => hk W (h.ext.tr e)) (b12.ext h.ext) (b14.ext h.ext) hL
set_option maxHeartbeats 16000000 in
theorem bd_1 (hd : ∀ w ∈ ws', D60 w.al) (hdB : D60 B) (hkp : ∀ (j : Nat) (x y : Wt), ws[j]? = some x → ws'[j]? = some y → (x.ru = true → y.we = x.we ∧ y.sn = x.sn ∧ y.ru = true) ∧ x.sn ≤ y.sn ∧ x.th ≤ y.th)
 (hL : ws'.length = ws.length → sumW Alm.al ws' = sumW Alm.al ws) :
 s_law28_AlarmBudget_1 Tryz.prog (pr g7 0) (pr g10 0) (.bool true) (.int .i64 (i : Int)) k1 w0 R := by
 have h1 := hB.len
 have h2 := hB'.len
 have cc1 := fun {W : World} (e : Ext w0 W) => c_LeftB (w0 := W) hB hn (sv.ext e) (hE.ext e)
 have cc2 := fun {W : World} (e : Ext w0 W) => c_LeftB (w0 := W) hB' hn (su.ext e) (hE.ext e)
 have cc3 := fun {W : World} (e : Ext w0 W) => c_ValB (w0 := W) hB' hn (su.ext e) (hE.ext e)
 unfold s_law28_AlarmBudget_1
 have h := Hp.init [] w0
 refine faS (lgA h ‹_› (by rfl) ?_)
 refine cl1 h n_alarm_Left (cc1 h.ext) fun w h => ?_
 refine Ex2 (alS h fun g1 w h => ?_)
 refine stA h 0 rfl rfl rfl rfl fun w h => ?_
 refine faS (lgA h ‹_› (by rfl) ?_)
 refine cl1 h n_alarm_Left (cc2 h.ext) fun w h => ?_
 refine Ex2 (alS h fun g2 w h => ?_)
 refine stA h 0 rfl rfl rfl rfl fun w h => ?_
 refine Un_T (Gd_F (Gd_F (Bn_neF (by omega) (Pick_F (Gd_F (Gd_F (Bn_neF (by omega) (Pick_F (Gd_F (faS (Gd_F (lgA h ‹_› (by rfl) ?_))))))))))))
 refine Gd_F (cl1 h n_alarm_Valid (cc3 h.ext) fun w h => ?_)
 refine Gd_F (Un_T (Pick_F (Gd_F (faS (Gd_F (faS (Gd_F (lg1 h ‹_› (by rfl) ?_))))))))
 refine Gd_F (leS (su.hp h) ?_)
 refine Gd_F (faS (Gd_F (faS (Gd_F (lg1 h ‹_› (by rfl) ?_)))))
 refine Gd_F (leS (sv.hp h) ?_)
 refine Gd_F (Bn_ltF (by omega) (Pick_F (If_F (ldA h 0 rfl rfl ?_))))
 dsimp only [List.set] at h
 exact bd_2 (hE.ext h.ext) hB hB' hn (b7.ext h.ext) (b10.ext h.ext) (sv.ext h.ext) (su.ext h.ext) hl (fun W e => hk W (h.ext.tr e)) hd hdB hkp (h.get (i := 1) rfl) (h.get (i := 0) rfl) (fun hc => by rw [hL hc])
end
abbrev fDd (d : Dd) : List Value := [.int .i64 d.kind, .int .i64 (d.x 0), .int .i64 (d.x 1), .int .i64 (d.x 2), .int .i64 (d.x 3), .int .i64 (d.x 4), .int .i64 (d.x 5), .int .i64 d.many]
def Dok (l : List Dd) : Prop := ∀ d ∈ l, Ddk d
theorem sl2_lt {w0 W : World} {L : List Et} {v rv : Value} {n m : Nat} {xs ys : List Value} (h : Hp [] w0 W (sl2 v n xs rv m ys :: L)) : (∀ k, v.ownBlock = some k → k < W.heap.size) ∧ (∀ k, rv.ownBlock = some k → k < W.heap.size) :=
 ⟨fun k hk => (h.ks _ List.mem_cons_self k (by simp [hk])).1, fun k hk => (h.ks _ List.mem_cons_self k (by simp [hk])).1⟩
abbrev sl3 (v : Value) (n : Nat) (xs : List Value) (u : Value) (n' : Nat) (xs' : List Value) (rv : Value) (m : Nat) (ys : List Value) : Et := ⟨v.ownBlock.toList ++ (u.ownBlock.toList ++ rv.ownBlock.toList), fun w => SlC w 15 v n xs ∧ SlC w 15 u n' xs' ∧ SlC w 1 rv m ys⟩
theorem sl3_new {w0 W w' : World} {L : List Et} {v rv u rv' : Value} {n m n' m' : Nat} {xs ys xs' ys' : List Value} (h : Hp [] w0 W (sl2 v n xs rv m ys :: L)) (e : Ext W w') (hu : SlC w' 15 u n' xs') (hr : SlC w' 1 rv' m' ys')
 (ku : ∀ k, u.ownBlock = some k → k < w'.heap.size ∧ (v.ownBlock = some k ∨ W.heap.size ≤ k)) (kr : ∀ k, rv'.ownBlock = some k → k < w'.heap.size ∧ (rv.ownBlock = some k ∨ W.heap.size ≤ k)) : Hp [] w0 w' (sl3 v n xs u n' xs' rv' m' ys' :: L) := by
 have hs := h.mo.size
 have hv : SlC w' 15 v n xs := ((h.get (i := 0) rfl : _ ∧ _).1).ext e
 have hlt := sl2_lt h
 have h1 := h.x e
 have hd : Hp [] w0 w' L := h1.drop 1
 have hnd := List.pairwise_cons.1 h1.nd
 have hks := h1.ks _ List.mem_cons_self
 have key : ∀ k ∈ (sl3 v n xs u n' xs' rv' m' ys').ks, k < w'.heap.size ∧ (k ∈ (sl2 v n xs rv m ys).ks ∨ W.heap.size ≤ k) := fun k hk => by
  rcases List.mem_append.1 hk with hk | hk
  ·have hm : k ∈ (sl2 v n xs rv m ys).ks := List.mem_append_left _ hk
   exact ⟨(hks k hm).1, .inl hm⟩
  rcases List.mem_append.1 hk with hk | hk
  ·have := ku k (by simpa using hk)
   exact ⟨this.1, this.2.imp (fun h => by simp [h]) id⟩
  ·have := kr k (by simpa using hk)
   exact ⟨this.1, this.2.imp (fun h => by simp [h]) id⟩
 refine hd.nw (fun w'' _ hb => ⟨hv.mv fun i hi hl => hb i hl (.inl (by simp [hi])), hu.mv fun i hi hl => hb i hl (.inl (by simp [hi])), hr.mv fun i hi hl => hb i hl (.inl (by simp [hi]))⟩) (fun k hk => ⟨(key k hk).1, ?_⟩) fun x hx k hk hc => ?_
 ·rcases (key k hk).2 with h2 | h2
  ·exact (hks k h2).2
  ·exact .inl (by omega)
 ·rcases (key k hk).2 with h2 | h2
  ·exact hnd.1 x hx k h2 hc
  ·have := (h.ks x (List.mem_cons_of_mem _ hx) k hc).1
   omega
theorem sl3_sl2 {w0 W : World} {L : List Et} {v rv u : Value} {n m n' : Nat} {xs ys xs' : List Value} (h : Hp [] w0 W (sl3 v n xs u n' xs' rv m ys :: L)) : Hp [] w0 W (sl2 u n' xs' rv m ys :: L) := by
 have hnd := List.pairwise_cons.1 h.nd
 have hks := h.ks _ List.mem_cons_self
 have g : SlC W 15 v n xs ∧ SlC W 15 u n' xs' ∧ SlC W 1 rv m ys := h.get (i := 0) rfl
 exact (h.drop 1).nw (sl2_at g.2.1 g.2.2) (fun k hk => hks k (List.mem_append_right _ hk)) fun x hx k hk => hnd.1 x hx k (List.mem_append_right _ hk)
structure WI (W1 W : World) (B : Rat) (fl : List Ft) (lv : Value) (g1 j : Nat) (s : St) (x y z x' y' z' : _) : Prop where
 vb : VB (30 * j) B s.ws
 si : SI s
 at' : s.at' ≤ fl.length
 rg : s.rg.length ≤ 12 * j
 h : Hp [] W1 W [sl2 (.slice x y z) s.ws.length ((s.ws.map wr).flatMap fW) (.slice x' y' z') s.rg.length (s.rg.flatMap fN), bx g1 tWd [str (tx B).1, str (tx B).2, .slice x y z, lv, .int .i64 (s.at' : Int), .slice x' y' z']]
theorem WI.new {W1 W : World} {B : Rat} {fl : List Ft} {lv : Value} {g1 j : Nat} {s : St} {x y z x' y' z' : _} (h : WI W1 W B fl lv g1 j s x y z x' y' z') {d : Dd} {W' : World} {a b c a' b' c' : _} (hfl : VFs fl) (hn : fl.length ≤ 30)
 (h' : Hp [] W1 W' [sl2 (.slice a b c) (doS B fl d s).ws.length (((doS B fl d s).ws.map wr).flatMap fW) (.slice a' b' c') (doS B fl d s).rg.length ((doS B fl d s).rg.flatMap fN), bx g1 tWd [str (tx B).1, str (tx B).2, .slice a b c, lv, .int .i64 ((doS B fl d s).at' : Int), .slice a' b' c']]) :
 WI W1 W' B fl lv g1 (j + 1) (doS B fl d s) a b c a' b' c' where
 vb := (doS_VB d h.vb (by omega) hfl).mono (by omega)
 si := h.si.doS d
 at' := doS_at d h.at'
 rg := by have := doS_rg (fl := fl) d h.vb; have := h.rg; omega
 h := h'
theorem c_doesK {w0 : World} {n : Int} {B : Rat} {s : St} {v lv rv : Value} {fl : List Ft} {d : Dd} (hE : En w0) (hB : VB n B s.ws) (hn : 0 ≤ n ∧ n + fl.length ≤ 1000000) (hv : SlC w0 15 v s.ws.length ((s.ws.map wr).flatMap fW)) (hr : SlC w0 1 rv s.rg.length (s.rg.flatMap fN)) (hF : Fk w0 lv fl) (hfl : VFs fl) (ha : s.at' ≤ fl.length) (hrg : s.rg.length ≤ 1000000) (hd : Ddk d)
 (hsv : ∀ k, v.ownBlock = some k → k < w0.heap.size) (hsr : ∀ k, rv.ownBlock = some k → k < w0.heap.size) : Calls Tryz.prog 11 #[vWd B v lv s.at' rv, vD d] w0 (Ret fun o w' =>
  ∃ a b c a' b' c', o = .tuple #[vWd B (.slice a b c) lv (doS B fl d s).at' (.slice a' b' c'), .bool true] ∧ Ext w0 w' ∧ SlC w' 15 (.slice a b c) (doS B fl d s).ws.length (((doS B fl d s).ws.map wr).flatMap fW) ∧ SlC w' 1 (.slice a' b' c') (doS B fl d s).rg.length ((doS B fl d s).rg.flatMap fN) ∧
  (∀ k, (Value.slice a b c).ownBlock = some k → k < w'.heap.size ∧ (v.ownBlock = some k ∨ w0.heap.size ≤ k)) ∧ (∀ k, (Value.slice a' b' c').ownBlock = some k → k < w'.heap.size ∧ (rv.ownBlock = some k ∨ w0.heap.size ≤ k))) := by
 refine (c_does hE hB hn hv hr hF hfl ha hrg hd hsv hsr).mono fun en W h => ?_
 obtain ⟨o, rfl, u, rv', rfl, h1, h2, h3, h4, h5⟩ := h
 obtain ⟨a, b, c, rfl, _⟩ := h2.key
 obtain ⟨a', b', c', rfl, _⟩ := h3.key
 exact ⟨_, rfl, a, b, c, a', b', c', rfl, h1, h2, h3, h4, h5⟩
theorem bd_6 {W1 W : World} {R : Ending → World → Prop} {g1 j n at0 : Nat} {rg : List Nat} {B : Rat} {lv : Value} {x1 : Option Addr} {y1 z1 : Nat} {x2 : Option Addr} {y2 z2 : Nat} {xs : List Value} (hR : ∀ W, Ext W1 W → R (.returned (.bool true)) W) (hrg : rg.length ≤ 12 * j) (hnd : rg.Nodup)
 (h : Hp [] W1 W [sl2 (.slice x1 y1 z1) n xs (.slice x2 y2 z2) rg.length (rg.flatMap fN), bx g1 tWd [str (tx B).1, str (tx B).2, .slice x1 y1 z1, lv, .int .i64 (at0 : Int), .slice x2 y2 z2]]) (hj : j ≤ 15) :
 Lp1 (.int .i64 0) W (fun t22 w k5 => s_law28_AlarmBudget_6 Tryz.prog (pr g1 0) t22 k5 w R) := by
 have sr : SlC W 1 (.slice x2 y2 z2) rg.length (rg.flatMap fN) := (h.get (i := 0) rfl).2
 have b1 : Blk W g1 tWd [str (tx B).1, str (tx B).2, .slice x1 y1 z1, lv, .int .i64 (at0 : Int), .slice x2 y2 z2] := h.get (i := 1) rfl
 have hR2 : ∀ W', Ext W W' → R (.returned (.bool true)) W' := fun W' e => hR W' (h.ext.tr e)
 clear h hR
 have h := Hp.init [] W
 refine Lp1.mk (fun i W' => ∃ p : Nat, p ≤ rg.length ∧ i = .int .i64 p ∧ Hp [] W W' []) (fun i _ => match i with | .int _ i' => rg.length - i'.toNat | _ => 0) ⟨0, by omega, rfl, h⟩ ?_
 clear h
 rintro _ W' ⟨p, hp, rfl, h⟩
 unfold s_law28_AlarmBudget_6
 by_cases hpl : p < rg.length
 ·refine Exists.elim (p := fun x => rg[p]? = some x) ⟨_, List.getElem?_eq_getElem hpl⟩ fun a ha => ?_
  have sp : Seg (rg.flatMap fN) (p * 1) (fN a) := flat_seg (f := fN) (fun _ => rfl) ha
  refine faS (lg1 h ‹_› (by rfl) ?_)
  refine leS (sr.hp h) ?_
  refine Bn_ltT (by omega) (If_T (Lp1.mk (fun i W' => ∃ q : Nat, q ≤ p ∧ i = .int .i64 q ∧ Hp [] W W' []) (fun i _ => match i with | .int _ i' => p - i'.toNat | _ => 0) ⟨0, by omega, rfl, h⟩ ?_))
  clear h
  rintro _ W' ⟨q, hq, rfl, h⟩
  by_cases hql : q < p
  ·refine Exists.elim (p := fun x => rg[q]? = some x) ⟨_, List.getElem?_eq_getElem (by omega)⟩ fun c hc => ?_
   have sq : Seg (rg.flatMap fN) (q * 1) (fN c) := flat_seg (f := fN) (fun _ => rfl) hc
   have hne : c ≠ a := by
    have h1 := List.pairwise_iff_getElem.1 hnd q p (by omega) hpl hql
    rw [(List.getElem?_eq_some_iff.1 hc).2, (List.getElem?_eq_some_iff.1 ha).2] at h1
    exact h1
   refine Bn_ltT (by omega) (If_T ?_)
   replace h := h.dr
   refine dfS (dg1 h ‹_› (by rfl) ?_)
   refine diH h ‹_› (by omega) fun zb zo zk zv zc => ?_
   refine dh0 h ‹_› ‹_› (by rfl) ?_
   refine dfS (dg1 h ‹_› (by rfl) ?_)
   refine diH h ‹_› (by omega) fun zb zo zk zv zc => ?_
   refine dh0 h ‹_› ‹_› (by rfl) ?_
   refine Dv_eqF (by omega) (If_F (Bn_ad (by omega) (by omega) ?_))
   exact ⟨⟨q + 1, by omega, rfl, h⟩, by show p - ((q : Int) + 1).toNat < p - (q : Int).toNat; omega⟩
  ·refine Bn_ltF (by omega) (If_F (Bn_ad (by omega) (by omega) ?_))
   exact ⟨⟨p + 1, by omega, rfl, h⟩, by show rg.length - ((p : Int) + 1).toNat < rg.length - (p : Int).toNat; omega⟩
 ·refine faS (lg1 h ‹_› (by rfl) ?_)
  refine leS (sr.hp h) ?_
  refine Bn_ltF (by omega) (If_F ?_)
  exact hR2 _ h.ext
section
variable {w0 : World} {b : Int} {v2 v3 : Value} {l3 : List I3} {dl : List Dd} (hE : En w0) (hb : I64 b) (h2 : SlC w0 3 v2 l3.length (l3.flatMap fT)) (h3 : SlC w0 8 v3 dl.length (dl.flatMap fDd)) (o2 : I3ok l3) (o3 : Dok dl) (n2 : l3.length ≤ 9223372036854775807) (n3 : dl.length ≤ 9223372036854775807)
include hE hb h2 h3 o2 o3 n2 n3
set_option maxHeartbeats 16000000 in
theorem law_Budget : Calls Tryz.prog 5 #[.int .i64 b, v2, v3] w0 (Ret fun r w' => Ext w0 w' ∧ r = .bool true) := by
 have ccs := fun {W : World} (e : Ext w0 W) => c_sane (w0 := W) (hE.ext e)
 have ccb := fun {W : World} (e : Ext w0 W) => c_begin (w0 := W) (hE.ext e) hb (h2.ext e) o2 n2
 have hV0 : VB 0 (bud b) [] := bud_VB b
 have hdB := bud_d60 b
 obtain ⟨B, hB⟩ : ∃ B, bud b = B := ⟨_, rfl⟩
 obtain ⟨fl, hfl⟩ : ∃ fl, fcts l3 30 = fl := ⟨_, rfl⟩
 have hV : VFs fl := by rw [← hfl]; exact fcts_VFs l3 (by decide)
 have hfn : fl.length ≤ 30 := by rw [← hfl]; exact fcts_len l3 30
 rw [hB] at ccb hV0 hdB
 rw [hfl] at ccb
 clear hB hfl
 apply e_law28_AlarmBudget
 apply u_law28_AlarmBudget
 unfold s_law28_AlarmBudget_0
 have h := Hp.init [] w0
 refine cl1 h n_law28_sane (ccs h.ext) fun w h => ?_
 refine Un_T (If_F (Cl_i n_law28_begin (ccb h.ext) ?_))
 rintro _ W1 ⟨x, y, z, rfl, k1⟩
 have sF := k1.sl (i := 0) rfl
 have e1 := h.ext.tr k1.ext
 have h3 := h3.ext e1
 have hE1 := hE.ext e1
 obtain ⟨Q, hQ⟩ : ∃ Q : Value → World → Prop, (fun r w' => Ext w0 w' ∧ r = .bool true) = Q := ⟨_, rfl⟩
 have hR : ∀ W, Ext W1 W → Ret Q (.returned (.bool true)) W := fun W e => by rw [← hQ]; exact Ret.mk ⟨e1.tr e, rfl⟩
 rw [hQ]
 clear h k1 ccb ccs hE h2 e1 hQ
 have h := ro_sl2 ((Hp.init [] W1).nil tWc 15)
 refine Ex2 (alS h fun g1 w h => ?_)
 refine stA h 0 rfl rfl rfl rfl fun w h => ?_
 refine Un_T (If_F ?_)
 dsimp only [List.set] at h
 have h := h.pick [1, 0] (by decide) rfl
 refine Lp1.mk (fun i W => ∃ (j : Nat) (s : St) (a : Option Addr) (c c' : Nat) (d : Option Addr) (d' d'' : Nat), j ≤ dl.length ∧ j ≤ 15 ∧ i = .int .i64 j ∧ WI W1 W B fl (.slice x y z) g1 j s a c c' d d' d'') (fun i _ => match i with | .int _ i' => dl.length - i'.toNat | _ => 0)
  ⟨0, ⟨[], 0, []⟩, _, _, _, _, _, _, by omega, by omega, rfl, ⟨hV0, ⟨.nil _, by simp⟩, by show 0 ≤ _; omega, by show 0 ≤ _; omega, h⟩⟩ ?_
 clear h
 rintro _ W ⟨j, s, x1, y1, z1, x2, y2, z2, hj, hj15, rfl, hI⟩
 have h := hI.h
 by_cases hj1 : j < dl.length
 rotate_left
 ·have hrg := hI.rg
  have hnd := hI.si.rg.nd
  clear hI
  refine leS (h3.hp h) ?_
  refine Bn_ltF (by omega) (Gd_FT (Gd_FT (Pick_F (If_F ?_))))
  exact bd_6 hR hrg hnd h hj15
 by_cases hj2 : j < 15
 rotate_left
 ·have hrg := hI.rg
  have hnd := hI.si.rg.nd
  clear hI
  refine leS (h3.hp h) ?_
  refine Bn_ltT (by omega) (Gd_T (Gd_T (Bn_ltF (by omega) (Pick_T (If_F ?_)))))
  exact bd_6 hR hrg hnd h hj15
 ·refine Exists.elim (p := fun d => dl[j]? = some d) ⟨_, List.getElem?_eq_getElem hj1⟩ fun d hd => ?_
  have sd : Seg (dl.flatMap fDd) (j * 8) (fDd d) := flat_seg (f := fDd) (fun _ => rfl) hd
  have hdk := o3 d (List.mem_of_getElem? hd)
  have hrg := hI.rg
  have hat := hI.at'
  refine leS (h3.hp h) ?_
  refine Bn_ltT (by omega) (Gd_T (Gd_T (Bn_ltT (by omega) (Pick_T (If_T (Jn2.mk fun K lf => ?_))))))
  have lf1 : ∀ {W : World} {g : Nat} {a : Option Addr} {b' c : Nat} {a2 : Option Addr} {b2 c2 : Nat}, Hp [] W1 W [bx g tWd [str (tx B).1, str (tx B).2, .slice a b' c, .slice x y z, .int .i64 ((doS B fl d s).at' : Int), .slice a2 b2 c2], sl3 (.slice x1 y1 z1) s.ws.length ((s.ws.map wr).flatMap fW) (.slice a b' c) (doS B fl d s).ws.length (((doS B fl d s).ws.map wr).flatMap fW) (.slice a2 b2 c2) (doS B fl d s).rg.length ((doS B fl d s).rg.flatMap fN), bx g1 tWd [str (tx B).1, str (tx B).2, .slice x1 y1 z1, .slice x y z, .int .i64 (s.at' : Int), .slice x2 y2 z2]] → K (pr g 0) (.bool true) W := fun {W} {g} {a} {b'} {c} {a2} {b2} {c2} h => lf _ _ W (by
   refine bd_1 (n := 30 * ((j + 1 : Nat) : Int)) (hE1.ext h.ext) (hI.vb.mono (by omega)) ((doS_VB d hI.vb (by omega) hV).mono (by omega)) (by omega) (h.get (i := 2) rfl) (h.get (i := 0) rfl) (h.get (i := 1) rfl).1 (h.get (i := 1) rfl).2.1 (doS_len d) (fun W' e => ?_) (hI.si.doS d).d6 hdB (fun k p q hp hq => doS_keep d hp hq) (fun hc => doS_same d hc)
   have h := sl3_sl2 ((h.pick [1, 2] (by decide) rfl).x e)
   unfold s_law28_AlarmBudget_5
   refine stA h 1 rfl rfl rfl rfl fun w h => ?_
   refine Bn_ad (by omega) (by omega) ?_
   dsimp only [List.set] at h
   exact ⟨⟨j + 1, doS B fl d s, _, _, _, _, _, _, by omega, by omega, rfl, hI.new hV hfn h⟩, by show dl.length - ((j : Int) + 1).toNat < dl.length - (j : Int).toNat; omega⟩)
  clear lf
  have ccd := fun {W' : World} (e : Ext W1 W') (hv : SlC W' 15 (.slice x1 y1 z1) s.ws.length ((s.ws.map wr).flatMap fW)) (hr : SlC W' 1 (.slice x2 y2 z2) s.rg.length (s.rg.flatMap fN)) => c_doesK (w0 := W') (n := 30 * j) (lv := .slice x y z) (hE1.ext e) hI.vb (by omega) hv hr (Fk.of (sF.ext e) hV) hV hat (by omega) hdk
  clear hI
  replace h := h.dr
  refine dlA h 1 rfl rfl ?_
  refine diH h ‹_› (by omega) fun zb zo zk zv zc => ?_
  refine dhA h ‹_› ‹_› (by rfl) ?_
  refine ⟨?_, ?_⟩
  ·refine Cl_i n_law28_world_does (ccd h.ext (h.get (i := 0) rfl).1 (h.get (i := 0) rfl).2 (sl2_lt h).1 (sl2_lt h).2) ?_
   rintro _ W2 ⟨a, b', c, a2, b2, c2, rfl, e, su, sr, ou, or'⟩
   have h := sl3_new h e su sr ou or'
   clear ccd su sr ou or'
   refine ExP2 (alS h fun g2 w h => ?_)
   refine klA h 2 rfl rfl ?_
   refine khA h ‹_› ‹_› (by rfl) ?_
   refine stA h 0 rfl rfl rfl rfl fun w h => ?_
   exact lf1 h
  ·refine alS h fun g2 w h => ?_
   refine klA h 2 rfl rfl ?_
   refine khA h ‹_› ‹_› (by rfl) ?_
   have h := h.pick [1, 0, 2] (by decide) rfl
   refine Cl_i n_law28_world_does (ccd h.ext (h.get (i := 0) rfl).1 (h.get (i := 0) rfl).2 (sl2_lt h).1 (sl2_lt h).2) ?_
   rintro _ W2 ⟨a, b', c, a2, b2, c2, rfl, e, su, sr, ou, or'⟩
   have h := sl3_new h e su sr ou or'
   clear ccd su sr ou or'
   refine ExP2 (stA h 1 rfl rfl rfl rfl fun w h => ?_)
   exact lf1 (h.pick [1, 0, 2] (by decide) rfl)
end
end Go.Proofs.YtnkmbjedcjcccaaGreatDoor
