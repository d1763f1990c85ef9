/-
  Contracts and plain lemmas. By an AI agent.
-/
import Derived.Test.YtnkmbjedcjcccaaGreatDoorLAmC
import Derived.Test.YtnkmbjedcjcccaaGreatDoorAmB
import Derived.Test.YtnkmbjedcjcccaaGreatDoorTyp
set_option linter.unusedSimpArgs false
set_option linter.unusedVariables false
set_option linter.unusedSectionVars false
namespace Go.Proofs.YtnkmbjedcjcccaaGreatDoor
open Go Go.Eng Go.Proofs Go.Num Go.RowKit
open Go.Alm (Ft Wt Sm VW VA dn fct obs obs1 rungs obsN fresh sumW cfc prodW Wl)
set_option maxRecDepth 100000
theorem mkM_bd (x : I6) : 2 ≤ mkM x ∧ mkM x ≤ 4 := by
 have h3 := pickZ_bd (c := x 2) (n := 3) (by decide)
 unfold mkM; omega
theorem fct_mk (x : I6) (late : Bool) : SR 2 1 (fct (mkW x) late) := by
 have hm := mkM_bd x
 have hb := pickZ_bd (c := x 4) (n := 2 * mkM x + 1) (by omega)
 have hd0 : (0 : Rat) < ((mkM x : Int) : Rat) := by exact_mod_cast (show 0 < mkM x by omega)
 have e1 := Rat.div_def (((1 : Int)) : Rat) ((mkM x : Int) : Rat)
 have e2 := Rat.mul_inv_cancel ((mkM x : Int) : Rat) (by grind)
 obtain ⟨b, hbe⟩ : ∃ b, pickZ (x 4) (2 * mkM x + 1) = b := ⟨_, rfl⟩
 obtain ⟨m, hme⟩ : ∃ m, mkM x = m := ⟨_, rfl⟩
 have q : fct (mkW x) late = ((2 * m + b * ((if late then m else 0) - 1) : Int) : Rat) / ((2 * m : Int) : Rat) := by
  have e3 := Rat.div_def ((2 * m + b * ((if late then m else 0) - 1) : Int) : Rat) ((2 * m : Int) : Rat)
  have e4 := Rat.mul_inv_cancel ((2 * m : Int) : Rat) (by
   have : (0 : Rat) < ((2 * m : Int) : Rat) := by exact_mod_cast (show 0 < 2 * m by omega)
   grind)
  unfold Alm.fct
  show 1 + mkBet x * ((if late then 1 else 0) - mkMu x) = _
  unfold mkBet mkMu
  rw [hme] at hbe e1 e2 hd0 ⊢
  rw [hbe]
  have c1 : ((2 * m : Int) : Rat) = 2 * (m : Rat) := by push_cast; rfl
  cases late
  ·have c2 : ((2 * m + b * ((if false = true then m else 0) - 1) : Int) : Rat) = 2 * (m : Rat) - (b : Rat) := by push_cast; grind
   rw [c2] at e3 ⊢
   rw [c1] at e3 e4 ⊢
   grind
  ·have c2 : ((2 * m + b * ((if true = true then m else 0) - 1) : Int) : Rat) = 2 * (m : Rat) + (b : Rat) * ((m : Rat) - 1) := by push_cast; grind
   rw [c2] at e3 ⊢
   rw [c1] at e3 e4 ⊢
   grind
 rw [q]
 rw [hme] at hm hbe hb
 rw [hbe] at hb
 refine .of ?_ ?_ (by omega)
 ·unfold Sz
  cases late
  ·show (2 * m + b * (0 - 1)).natAbs < 100
   omega
  ·show (2 * m + b * (m - 1)).natAbs < 100
   have h1 : b * (m - 1) ≤ 8 * 3 := Int.mul_le_mul (by omega) (by omega) (by omega) (by omega)
   have h2 : 0 ≤ b * (m - 1) := Int.mul_nonneg (by omega) (by omega)
   omega
 ·unfold Sz
  omega
def conW (w : Wt) (f : Ft) : Bool := (f.op == w.op) && (f.ve == w.ve) && decide (w.st < f.tr)
theorem cfc_snoc {w : Wt} {l : List Ft} {i : Nat} {f : Ft} (h : l[i]? = some f) : cfc w (l.take (i + 1)) = cfc w (l.take i) ++ (if conW w f then [f] else []) := by
 unfold Alm.cfc
 rw [List.take_add_one, h, List.filter_append]
 congr 1
 show List.filter (conW w) [f] = _
 rw [List.filter_cons]
 split <;> rfl
theorem cfc_pre (w : Wt) (l : List Ft) (i : Nat) : cfc w (l.take i) = (cfc w l).take (cfc w (l.take i)).length := by
 have h : cfc w l = cfc w (l.take i) ++ cfc w (l.drop i) := by
  unfold Alm.cfc
  rw [← List.filter_append, List.take_append_drop]
 rw [h, List.take_left']
 rfl
theorem cfc_le (w : Wt) (l : List Ft) (i : Nat) : (cfc w (l.take i)).length ≤ (cfc w l).length := by
 have := cfc_pre w l i
 rw [this, List.length_take]
 omega
theorem prod_SR {w : Wt} (h : ∀ late, SR 2 1 (fct w late)) : ∀ (l : List Ft), SR (1 + 2 * l.length) (1 + l.length) (prodW w l)
 | [] => one_SR
 | f :: l => by
  rw [Alm.prodW, List.length_cons]
  exact (SR.mul (h _) (prod_SR h l)).mono (by omega) (by omega)
theorem fr_ok (x : I6) : VW 0 (fresh [] (mkW x)) := fresh_VW (mkW_reg x) (by simp)
theorem wl_law (x : I6) (l : List Ft) : ∃ k, Wl (fresh [] (mkW x)) (obs1 (fresh [] (mkW x)).th (fresh [] (mkW x)) l) (cfc (fresh [] (mkW x)) l) k := by
 have := Alm.wl_obs (t := (fresh [] (mkW x)).th) (w := fresh [] (mkW x)) rfl (fr_ok x).ok l [] 0 ⟨Nat.le_refl _, by show (fresh [] (mkW x)).sn = (fresh [] (mkW x)).sn + 0; omega, by
  show (fresh [] (mkW x)).we ≤ (fresh [] (mkW x)).we * 1
  rw [Rat.mul_one]
  exact Rat.le_refl, fun _ => rfl, fun h => absurd rfl h⟩
 exact this
end Go.Proofs.YtnkmbjedcjcccaaGreatDoor
namespace Go.Proofs.YtnkmbjedcjcccaaGreatDoor
open Go Go.Eng
set_option maxRecDepth 100000
def s_law28_AlarmWealth_4 (P : Program) (t173 : Value) (t45 : Value) (t13 : Value) (t15 : Value) (t14 : Value) (w : World) (R : Ending → World → Prop) : Prop :=
 Ld P 26 t173 w fun t174 w =>
 Ia P 26 t174 (.int .i64 0) w fun t175 w =>
 Ld P 30 t175 w fun t176 w =>
 Al P 30 w fun t26 w =>
 Sto P 30 t26 t176 w fun w =>
 Fa P 30 t26 9 w fun t178 w =>
 Ld P 25 t178 w fun t179 w =>
 Fa P 30 t26 4 w fun t180 w =>
 Ld P 25 t180 w fun t181 w =>
 Cl P 32 #[t179, t181] w (Pk R) fun t182 w =>
 Ex t182 0 w fun t183 w =>
 Ex t182 1 w fun t184 w =>
 Al P 25 w fun t27 w =>
 Sto P 25 t27 t183 w fun w =>
 Lp2 (.int .i64 0) (.int .i64 0) w (fun t29 t30 w k4 =>
 Bt P .len #[31] 3 #[t45] w fun t187 w =>
 Bn P .lss 3 false t30 t187 w fun t188 w =>
 If t188
 (Dv P true (Instr.indexAt 31 t45 t30) w.drew fun t193 =>
 Dv P true (Instr.fieldAt 65 t193 4) w.drew fun t194 =>
 Dv P false (Instr.loadAt 3 t194) w.drew fun t195 =>
 Dv P true (Instr.fieldAt 30 t13 0) w.drew fun t196 =>
 Dv P false (Instr.loadAt 3 t196) w.drew fun t197 =>
 Dv P true (bn .eql 3 false t195 t197) w.drew fun t198 =>
 GdP t198 true (fun k => k t45) fun t200 =>
 GdP t198 true (fun k => k t30) fun t201 =>
 GdP t198 true (fun k => Dv P true (Instr.indexAt 31 t200 t201) w.drew k) fun t202 =>
 GdP t198 true (fun k => Dv P true (Instr.fieldAt 65 t202 3) w.drew k) fun t203 =>
 GdP t198 true (fun k => Dv P false (Instr.loadAt 3 t203) w.drew k) fun t204 =>
 GdP t198 true (fun k => Dv P true (Instr.fieldAt 30 t13 1) w.drew k) fun t205 =>
 GdP t198 true (fun k => Dv P false (Instr.loadAt 3 t205) w.drew k) fun t206 =>
 GdP t198 true (fun k => Dv P true (bn .eql 3 false t204 t206) w.drew k) fun t207 =>
 PickP t198 t207 (.bool false) fun t208 =>
 GdP t208 true (fun k => k t45) fun t210 =>
 GdP t208 true (fun k => k t30) fun t211 =>
 GdP t208 true (fun k => Dv P true (Instr.indexAt 31 t210 t211) w.drew k) fun t212 =>
 GdP t208 true (fun k => Dv P true (Instr.fieldAt 65 t212 0) w.drew k) fun t213 =>
 GdP t208 true (fun k => Dv P false (Instr.loadAt 3 t213) w.drew k) fun t214 =>
 GdP t208 true (fun k => Dv P true (Instr.fieldAt 30 t13 6) w.drew k) fun t215 =>
 GdP t208 true (fun k => Dv P false (Instr.loadAt 3 t215) w.drew k) fun t216 =>
 GdP t208 true (fun k => Dv P true (bn .gtr 3 false t214 t216) w.drew k) fun t217 =>
 PickP t208 t217 (.bool false) fun t218 =>
 If t218
 (Bn P .add 3 true t29 (.int .i64 1) w.drew fun t220 w =>
 Bn P .add 3 true t30 (.int .i64 1) w fun t190 w =>
 k4 t220 t190 w)
 (Bn P .add 3 true t30 (.int .i64 1) w.drew fun t190x1 w =>
 k4 t29 t190x1 w))
 (Dv P true (bn .eql 46 true t184 (.int .i64 0)) w.drew fun t222 =>
 GdP t222 true (fun k => k t15) fun t224 =>
 GdP t222 true (fun k => Dv P true (Instr.fieldAt 30 t26 8) w.drew k) fun t225 =>
 GdP t222 true (fun k => Dv P false (Instr.loadAt 3 t225) w.drew k) fun t226 =>
 GdP t222 true (fun k => Dv P true (bn .eql 3 false t224 t226) w.drew k) fun t227 =>
 PickP t222 t227 (.bool false) fun t228 =>
 GdP t228 true (fun k => Dv P true (Instr.fieldAt 30 t26 9) w.drew k) fun t230 =>
 GdP t228 true (fun k => Dv P false (Instr.loadAt 25 t230) w.drew k) fun t231 =>
 GdP t228 true (fun k => Dv P false (Instr.loadAt 25 t14) w.drew k) fun t232 =>
 Gd t228 true (fun k => Cl P 34 #[t231, t232] w.drew (Pk R) k) w.drew fun t233 w =>
 GdP t228 true (fun k => Dv P true (bn .leq 3 true t233 (.int .i64 0)) w k) fun t234 =>
 PickP t228 t234 (.bool false) fun t235 =>
 GdP t235 true (fun k => Dv P true (Instr.fieldAt 30 t26 9) w k) fun t237 =>
 GdP t235 true (fun k => Dv P false (Instr.loadAt 25 t237) w k) fun t238 =>
 Gd t235 true (fun k => Cl P 30 #[(.int .i64 0), (.int .i64 1)] w (Pk R) k) w fun t239 w =>
 Kg t235 true P (Instr.loadAt 25 t237) t238 w <|
 Gd t235 true (fun k => Cl P 34 #[t238, t239] w (Pk R) k) w fun t240 w =>
 GdP t235 true (fun k => Dv P true (bn .geq 3 true t240 (.int .i64 0)) w k) fun t241 =>
 PickP t235 t241 (.bool false) fun t242 =>
 GdP t242 true (fun k => Dv P true (Instr.fieldAt 30 t26 10) w k) fun t244 =>
 GdP t242 true (fun k => Dv P false (Instr.loadAt 4 t244) w k) fun t245 =>
 GdP t242 true (fun k => Dv P false (Instr.loadAt 25 t27) w k) fun t246 =>
 Gd t242 true (fun k => Cl P 30 #[(.int .i64 1), (.int .i64 1)] w (Pk R) k) w fun t247 w =>
 Kg t242 true P (Instr.loadAt 4 t244) t245 w <|
 Kg t242 true P (Instr.loadAt 25 t27) t246 w <|
 Gd t242 true (fun k => Cl P 34 #[t246, t247] w (Pk R) k) w fun t248 w =>
 Kg t242 true P (Instr.loadAt 4 t244) t245 w <|
 GdP t242 true (fun k => Dv P true (bn .geq 3 true t248 (.int .i64 0)) w k) fun t249 =>
 GdP t242 true (fun k => Dv P true (bn .eql 4 false t245 t249) w k) fun t250 =>
 PickP t242 t250 (.bool false) fun t251 =>
 GdP t251 true (fun k => Dv P true (Instr.fieldAt 30 t26 10) w k) fun t253 =>
 GdP t251 true (fun k => Dv P false (Instr.loadAt 4 t253) w k) fun t254 =>
 GdP t251 true (fun k => k t254) fun t255 =>
 GdP t255 false (fun k => Dv P true (Instr.fieldAt 30 t26 8) w k) fun t256 =>
 GdP t255 false (fun k => Dv P false (Instr.loadAt 3 t256) w k) fun t257 =>
 GdP t255 false (fun k => k t29) fun t258 =>
 GdP t255 false (fun k => Dv P true (bn .eql 3 false t257 t258) w k) fun t259 =>
 GdP t251 true (fun k => PickP t255 (.bool true) t259 k) fun t260 =>
 PickP t251 t260 (.bool false) fun t261 =>
 R (.returned t261) w))
def s_law28_AlarmWealth_3 (P : Program) (t119 : Value) (t16 : Value) (t15 : Value) (t45 : Value) (t13 : Value) (t14 : Value) (k1 : Value → Value → World → Prop) (w : World) (R : Ending → World → Prop) : Prop :=
 If t119
 (Bn P .add 3 true t16 (.int .i64 1) w.drew fun t91 w =>
 k1 t15 t91 w)
 (Cl P 30 #[(.int .i64 0), (.int .i64 1)] w.drew (Pk R) fun t120 w =>
 Al P 25 w fun t17 w =>
 Sto P 25 t17 t120 w fun w =>
 Jn0 (fun k2 =>
 Dv P true (Instr.indexAt 31 t45 t16) w.drew fun t123 =>
 Dv P true (Instr.fieldAt 65 t123 7) w.drew fun t124 =>
 Dv P false (Instr.loadAt 3 t124) w.drew fun t125 =>
 Dv P true (Instr.fieldAt 30 t13 2) w.drew fun t126 =>
 Dv P false (Instr.loadAt 3 t126) w.drew fun t127 =>
 Dv P true (bn .gtr 3 false t125 t127) w.drew fun t128 =>
 If t128
 (Cl P 30 #[(.int .i64 1), (.int .i64 1)] w.drew (Pk R) fun t129 w =>
 Sto P 25 t17 t129 w fun w =>
 k2 w)
 (k2 w.drew))
 (fun w =>
 Ld P 25 t17 w fun t131 w =>
 Fa P 30 t13 3 w fun t132 w =>
 Ld P 25 t132 w fun t133 w =>
 Cl P 31 #[t131, t133] w (Pk R) fun t134 w =>
 Ex t134 0 w fun t135 w =>
 Ex t134 1 w fun t136 w =>
 Al P 25 w fun t18 w =>
 Sto P 25 t18 t135 w fun w =>
 Fa P 30 t13 5 w fun t138 w =>
 Ld P 25 t138 w fun t139 w =>
 Ld P 25 t18 w fun t140 w =>
 Cl P 32 #[t139, t140] w (Pk R) fun t141 w =>
 Ex t141 0 w fun t142 w =>
 Ex t141 1 w fun t143 w =>
 Al P 25 w fun t20 w =>
 Sto P 25 t20 t142 w fun w =>
 Jn2 (fun k3 =>
 Dv P false (Instr.loadAt 25 t20) w.drew fun t146 =>
 (Cl P 30 #[(.int .i64 1), (.int .i64 1)] w.drew (Pk R) fun t145 w =>
 Ke P (Instr.loadAt 25 t20) t146 w <|
 (Cl P 35 #[t145, t146] w (Pk R) fun t147 w =>
 ExP t147 0 fun t148 =>
 ExP t147 1 fun t149 =>
 Al P 25 w fun t22 w =>
 Ke P (Instr.loadAt 25 t20) t146 w <|
 Sto P 25 t22 t148 w fun w =>
 k3 t22 t149 w) ∧
 (Al P 25 w fun t22x1 w =>
 Ke P (Instr.loadAt 25 t20) t146 w <|
 Cl P 35 #[t145, t146] w (Pk R) fun t147x1 w =>
 ExP t147x1 0 fun t148x1 =>
 ExP t147x1 1 fun t149x1 =>
 Sto P 25 t22x1 t148x1 w fun w =>
 k3 t22x1 t149x1 w)) ∧
 (Al P 25 w.drew fun t22x2 w =>
 Ke P (Instr.loadAt 25 t20) t146 w <|
 Cl P 30 #[(.int .i64 1), (.int .i64 1)] w (Pk R) fun t145x1 w =>
 Ke P (Instr.loadAt 25 t20) t146 w <|
 Cl P 35 #[t145x1, t146] w (Pk R) fun t147x2 w =>
 ExP t147x2 0 fun t148x2 =>
 ExP t147x2 1 fun t149x2 =>
 Sto P 25 t22x2 t148x2 w fun w =>
 k3 t22x2 t149x2 w))
 (fun t22x3 t23 w =>
 Ld P 25 t14 w fun t151 w =>
 Ld P 25 t22x3 w fun t152 w =>
 Cl P 32 #[t151, t152] w (Pk R) fun t153 w =>
 Ex t153 0 w fun t154 w =>
 Ex t153 1 w fun t155 w =>
 Al P 25 w fun t24 w =>
 Sto P 25 t24 t154 w fun w =>
 Bn P .neq 46 true t136 (.int .i64 0) w fun t157 w =>
 Gd t157 false (fun k => k t143 w) w fun t159 w =>
 Gd t157 false (fun k => Bn P .neq 46 true t159 (.int .i64 0) w k) w fun t160 w =>
 Pick t157 (.bool true) t160 w fun t161 w =>
 Gd t161 false (fun k => k t23 w) w fun t163 w =>
 Gd t161 false (fun k => Bn P .neq 46 true t163 (.int .i64 0) w k) w fun t164 w =>
 Pick t161 (.bool true) t164 w fun t165 w =>
 Gd t165 false (fun k => k t155 w) w fun t167 w =>
 Gd t165 false (fun k => Bn P .neq 46 true t167 (.int .i64 0) w k) w fun t168 w =>
 Pick t165 (.bool true) t168 w fun t169 w =>
 If t169
 (R (.returned (.bool false)) w)
 (Ld P 25 t24 w fun t170 w =>
 Sto P 25 t14 t170 w fun w =>
 Bn P .add 3 true t15 (.int .i64 1) w fun t172 w =>
 Bn P .add 3 true t16 (.int .i64 1) w fun t91x1 w =>
 k1 t172 t91x1 w))))
def s_law28_AlarmWealth_2 (P : Program) (t89 : Value) (t45 : Value) (t16 : Value) (t13 : Value) (t15 : Value) (t14 : Value) (t10 : Value) (k1 : Value → Value → World → Prop) (w : World) (R : Ending → World → Prop) : Prop :=
 If t89
 (Dv P true (Instr.indexAt 31 t45 t16) w.drew fun t94 =>
 Dv P true (Instr.fieldAt 65 t94 4) w.drew fun t95 =>
 Dv P false (Instr.loadAt 3 t95) w.drew fun t96 =>
 Dv P true (Instr.fieldAt 30 t13 0) w.drew fun t97 =>
 Dv P false (Instr.loadAt 3 t97) w.drew fun t98 =>
 Dv P true (bn .neq 3 false t96 t98) w.drew fun t99 =>
 GdP t99 false (fun k => k t45) fun t101 =>
 GdP t99 false (fun k => k t16) fun t102 =>
 GdP t99 false (fun k => Dv P true (Instr.indexAt 31 t101 t102) w.drew k) fun t103 =>
 GdP t99 false (fun k => Dv P true (Instr.fieldAt 65 t103 3) w.drew k) fun t104 =>
 GdP t99 false (fun k => Dv P false (Instr.loadAt 3 t104) w.drew k) fun t105 =>
 GdP t99 false (fun k => Dv P true (Instr.fieldAt 30 t13 1) w.drew k) fun t106 =>
 GdP t99 false (fun k => Dv P false (Instr.loadAt 3 t106) w.drew k) fun t107 =>
 GdP t99 false (fun k => Dv P true (bn .neq 3 false t105 t107) w.drew k) fun t108 =>
 PickP t99 (.bool true) t108 fun t109 =>
 GdP t109 false (fun k => k t45) fun t111 =>
 GdP t109 false (fun k => k t16) fun t112 =>
 GdP t109 false (fun k => Dv P true (Instr.indexAt 31 t111 t112) w.drew k) fun t113 =>
 GdP t109 false (fun k => Dv P true (Instr.fieldAt 65 t113 0) w.drew k) fun t114 =>
 GdP t109 false (fun k => Dv P false (Instr.loadAt 3 t114) w.drew k) fun t115 =>
 GdP t109 false (fun k => Dv P true (Instr.fieldAt 30 t13 6) w.drew k) fun t116 =>
 GdP t109 false (fun k => Dv P false (Instr.loadAt 3 t116) w.drew k) fun t117 =>
 GdP t109 false (fun k => Dv P true (bn .leq 3 false t115 t117) w.drew k) fun t118 =>
 PickP t109 (.bool true) t118 fun t119 =>
 s_law28_AlarmWealth_3 P t119 t16 t15 t45 t13 t14 k1 w R)
 (Fa P 28 t10 1 w fun t173 w =>
 s_law28_AlarmWealth_4 P t173 t45 t13 t15 t14 w R)
def s_law28_AlarmWealth_1 (P : Program) (t75 : Value) (t45 : Value) (t10 : Value) (w : World) (R : Ending → World → Prop) : Prop :=
 Al P 30 w fun t13 w =>
 Sto P 30 t13 t75 w fun w =>
 Cl P 30 #[(.int .i64 1), (.int .i64 1)] w (Pk R) fun t76 w =>
 Al P 25 w fun t14 w =>
 Sto P 25 t14 t76 w fun w =>
 Lp2 (.int .i64 0) (.int .i64 0) w (fun t15 t16 w k1 =>
 Bt P .len #[31] 3 #[t45] w fun t79 w =>
 Bn P .lss 3 false t16 t79 w fun t80 w =>
 Gd t80 true (fun k => k t15 w) w fun t82 w =>
 Gd t80 true (fun k => Fa P 28 t10 1 w k) w fun t83 w =>
 Gd t80 true (fun k => Ld P 26 t83 w k) w fun t84 w =>
 Gd t80 true (fun k => Ia P 26 t84 (.int .i64 0) w k) w fun t85 w =>
 Gd t80 true (fun k => Fa P 30 t85 8 w k) w fun t86 w =>
 Gd t80 true (fun k => Ld P 3 t86 w k) w fun t87 w =>
 Gd t80 true (fun k => Bn P .lss 3 false t82 t87 w k) w fun t88 w =>
 Pick t80 t88 (.bool false) w fun t89 w =>
 s_law28_AlarmWealth_2 P t89 t45 t16 t13 t15 t14 t10 k1 w R)
def s_law28_AlarmWealth_0 (P : Program) (t0 : Value) (t1 : Value) (t2 : Value) (w : World) (R : Ending → World → Prop) : Prop :=
 Bx P 39 t1 w fun t4 w =>
 Cl P 9 #[] w (Pk R) fun t31 w =>
 Un P .not t31 w fun t32 w =>
 If t32
 (R (.returned (.bool false)) w)
 (Ld P 39 t4 w fun t35 w =>
 Bs P 72 1 [(0, t35)] w fun t36 w =>
 Cl P 36 #[t0, t36] w (Pk R) fun t37 w =>
 Ex t37 0 w fun t38 w =>
 Ex t37 1 w fun t39 w =>
 Al P 28 w fun t7 w =>
 Sto P 28 t7 t38 w fun w =>
 Bt P .len #[22] 3 #[t2] w fun t42 w =>
 Bt P .min #[3, 3] 3 #[t42, (.int .i64 20)] w fun t43 w =>
 Sc P 22 t2 none (some t43) none w fun t44 w =>
 Cl P 37 #[(.int .i64 0), t44] w (Pk R) fun t45 w =>
 Ld P 28 t7 w fun t47 w =>
 Cl P 24 #[t47, t45] w (Pk R) fun t49 w =>
 Ex t49 0 w fun t50 w =>
 Ex t49 1 w fun t51 w =>
 Ex t49 2 w fun t52 w =>
 Al P 28 w fun t10 w =>
 Sto P 28 t10 t50 w fun w =>
 Un P .not t39 w fun t54 w =>
 Gd t54 false (fun k => k t52 w) w fun t56 w =>
 Gd t54 false (fun k => Bn P .neq 46 true t56 (.int .i64 0) w k) w fun t57 w =>
 Pick t54 (.bool true) t57 w fun t58 w =>
 Gd t58 false (fun k => Fa P 28 t10 1 w k) w fun t60 w =>
 Gd t58 false (fun k => Ld P 26 t60 w k) w fun t61 w =>
 Gd t58 false (fun k => Bt P .len #[26] 3 #[t61] w k) w fun t62 w =>
 Gd t58 false (fun k => Fa P 28 t7 1 w k) w fun t63 w =>
 Gd t58 false (fun k => Ld P 26 t63 w k) w fun t64 w =>
 Gd t58 false (fun k => Bt P .len #[26] 3 #[t64] w k) w fun t65 w =>
 Gd t58 false (fun k => Bn P .neq 3 false t62 t65 w k) w fun t66 w =>
 Pick t58 (.bool true) t66 w fun t67 w =>
 If t67
 (R (.returned (.bool false)) w)
 (Fa P 28 t7 1 w fun t68 w =>
 Ld P 26 t68 w fun t69 w =>
 Bt P .len #[26] 3 #[t69] w fun t70 w =>
 Bn P .eql 3 true t70 (.int .i64 0) w fun t71 w =>
 If t71
 (R (.returned (.bool true)) w)
 (Fa P 28 t7 1 w fun t72 w =>
 Ld P 26 t72 w fun t73 w =>
 Ia P 26 t73 (.int .i64 0) w fun t74 w =>
 Ld P 30 t74 w fun t75 w =>
 s_law28_AlarmWealth_1 P t75 t45 t10 w R)))
theorem u_law28_AlarmWealth {t0 t1 t2 : Value} {w : World} {R : Ending → World → Prop} (h : s_law28_AlarmWealth_0 Tryz.prog t0 t1 t2 w R) : s_law28_AlarmWealth Tryz.prog t0 t1 t2 w R := Eq.mp (by kernel_rfl) h
end Go.Proofs.YtnkmbjedcjcccaaGreatDoor
namespace Go.Proofs.YtnkmbjedcjcccaaGreatDoor
open Go Go.Eng Go.Proofs Go.Num Go.RowKit
open Go.Alm (Ft Wt Sm VW VA dn fct obs obs1 rungs obsN fresh sumW cfc prodW Wl)
set_option maxRecDepth 100000
section
variable {w0 W : World} {R : Ending → World → Prop} {k1 : Value → Value → World → Prop} {fv : Value} {fl : List Ft} {i s ga gb : Nat} {f : Ft} {z : Wt} {E : Rat}
 (hE : En w0) (sF : SlC w0 10 fv fl.length (fl.flatMap fF)) (hn : fl.length ≤ 400) (hf : fl[i]? = some f) (hfi : FI f) (hs : s ≤ 400)
include hE sF hn hf hfi hs
theorem wl_3T (hk : ∀ W, Hp [] w0 W [bx gb tR (fR (tx E)), bx ga tWc (cT z)] → k1 (.int .i64 (s : Int)) (.int .i64 ((i : Int) + 1)) W)
 (h : Hp [] w0 W.drew [bx gb tR (fR (tx E)), bx ga tWc (cT z)]) :
 s_law28_AlarmWealth_3 Tryz.prog (.bool true) (.int .i64 (i : Int)) (.int .i64 (s : Int)) fv (pr ga 0) (pr gb 0) k1 W R := by
 have hi := (List.getElem?_eq_some_iff.1 hf).1
 unfold s_law28_AlarmWealth_3
 refine If_T (Bn_ad (by omega) (by omega) ?_)
 exact hk _ h
set_option maxHeartbeats 16000000 in
theorem wl_3F (hl : I64 z.lim) (sm : Sm 1 z.mu) (sb : Sm 1000 z.bet) (hq : ∀ late, SR 2 1 (fct z late)) {c : Nat} (hc : c ≤ 30) (hsr : SR (1 + 2 * c) (1 + c) E)
 (hk : ∀ W, Hp [] w0 W [bx gb tR (fR (tx (E * fct z (decide (z.lim < f.lo))))), bx ga tWc (cT z)] → k1 (.int .i64 ((s : Int) + 1)) (.int .i64 ((i : Int) + 1)) W)
 (h : Hp [] w0 W.drew [bx gb tR (fR (tx E)), bx ga tWc (cT z)]) :
 s_law28_AlarmWealth_3 Tryz.prog (.bool false) (.int .i64 (i : Int)) (.int .i64 (s : Int)) fv (pr ga 0) (pr gb 0) k1 W R := by
 have hi := (List.getElem?_eq_some_iff.1 hf).1
 have hlo := hfi.lo
 obtain ⟨late, hlate⟩ : ∃ b, decide (z.lim < f.lo) = b := ⟨_, rfl⟩
 rw [hlate] at hk
 have sf : Seg (fl.flatMap fF) (i * 10) (fF f) := flat_seg (f := fF) (fun _ => rfl) hf
 have cc0 : ∀ {W : World}, Ext w0 W → Calls Tryz.prog 30 #[.int .i64 0, .int .i64 1] W (Ret fun r w' => Ext W w' ∧ r = vR (tx (xL false))) := fun {W} e => by
  have := c_of (w := W) (n := 0) (d := 1) (hE.hT.ext e) (by decide) (by decide) (by decide)
  rw [q_div1] at this
  exact this
 have cc1 : ∀ {W : World}, Ext w0 W → Calls Tryz.prog 30 #[.int .i64 1, .int .i64 1] W (Ret fun r w' => Ext W w' ∧ r = vR (tx (xL true))) := fun {W} e => by
  have := c_of (w := W) (n := 1) (d := 1) (hE.hT.ext e) (by decide) (by decide) (by decide)
  rw [q_div1] at this
  exact this
 have cc2 := fun {W : World} (e : Ext w0 W) => k_sub (w := W) (k := 5) (xL_SR late) (Sm.sr1 sm) (by decide) (by decide) (by decide) (by decide) (hE.hT.ext e)
 have cc3 := fun {W : World} (e : Ext w0 W) => k_mul (w := W) (Sm.sr3 sb) (d_SR sm sb late) (by decide) (by decide) (hE.hT.ext e)
 have cc4 : ∀ {W : World}, Ext w0 W → Calls Tryz.prog 35 #[vR (tx (xL true)), vR (tx (z.bet * (xL late - z.mu)))] W (Ret fun r w' => Ext W w' ∧ r = .tuple #[vR (tx (fct z late)), .int .i64 0]) := fun {W} e => k_add (w := W) (k := 14) one_SR (p_SR sm sb late) (by decide) (by decide) (by decide) (by decide) (hE.hT.ext e)
 have cc5 := fun {W : World} (e : Ext w0 W) => k_mul (w := W) hsr (hq late) (by omega) (by omega) (hE.hT.ext e)
 have hgt : ∀ {wi : Bool} {c : Bool} {KP : Value → Prop} {W : World}, KP (.bool late) → Dv Tryz.prog wi (bn .gtr 3 c (.int .i64 f.lo) (.int .i64 z.lim)) W KP := fun hk => dvGt hlate hk
 unfold s_law28_AlarmWealth_3
 refine If_F (cl1 h n_law28_of (cc0 h.ext) fun w h => ?_)
 refine alS h fun g1 w h => ?_
 refine stA h 0 rfl rfl rfl rfl fun w h => ?_
 dsimp only [List.set] at h
 refine Jn0.mk fun K lf => ?_
 have lf1 : ∀ {W : World}, Hp [] w0 W [bx g1 tR (fR (tx (xL late))), bx gb tR (fR (tx E)), bx ga tWc (cT z)] → K W := fun {W} h => lf W (by
  refine ldA h 0 rfl rfl ?_
  refine faS (ldA h 2 rfl rfl ?_)
  refine cl1 h n_rational_Sub (cc2 h.ext) fun w h => ?_
  refine Ex2 (alS h fun g2 w h => ?_)
  refine stA h 0 rfl rfl rfl rfl fun w h => ?_
  refine faS (ldA h 3 rfl rfl ?_)
  refine ldA h 0 rfl rfl ?_
  refine cl1 h n_rational_Mul (cc3 h.ext) fun w h => ?_
  refine Ex2 (alS h fun g3 w h => ?_)
  refine stA h 0 rfl rfl rfl rfl fun w h => ?_
  dsimp only [List.set] at h
  refine Jn2.lfb tR (fR (tx (fct z late))) (.int .i64 0) h (fun K lf1 => ?_) (fun gx w h => ?_)
  ·replace h := h.dr
   refine dlA h 0 rfl rfl ?_
   refine ⟨?_, ?_⟩
   refine cl1 h n_law28_of (cc1 h.ext) fun w h => ?_
   refine klA h 0 rfl rfl ?_
   refine ⟨?_, ?_⟩
   refine cl1 h n_rational_Add (cc4 h.ext) fun w h => ?_
   refine ExP2 (alS h fun g4 w h => ?_)
   refine klA h 1 rfl rfl ?_
   refine stA h 0 rfl rfl rfl rfl fun w h => ?_
   exact lf1 _ _ h
   refine alS h fun g4 w h => ?_
   refine klA h 1 rfl rfl ?_
   refine cl1 h n_rational_Add (cc4 h.ext) fun w h => ?_
   refine ExP2 (stA h 0 rfl rfl rfl rfl fun w h => ?_)
   exact lf1 _ _ h
   refine alS h fun g4 w h => ?_
   refine klA h 1 rfl rfl ?_
   refine cl1 h n_law28_of (cc1 h.ext) fun w h => ?_
   refine klA h 1 rfl rfl ?_
   refine cl1 h n_rational_Add (cc4 h.ext) fun w h => ?_
   refine ExP2 (stA h 0 rfl rfl rfl rfl fun w h => ?_)
   exact lf1 _ _ h
  refine ldA h 4 rfl rfl ?_
  refine ldA h 0 rfl rfl ?_
  refine cl1 h n_rational_Mul (cc5 h.ext) fun w h => ?_
  refine Ex2 (alS h fun g4 w h => ?_)
  refine stA h 0 rfl rfl rfl rfl fun w h => ?_
  refine Bn_neF (by omega) (Gd_F (Gd_F (Bn_neF (by omega) (Pick_F (Gd_F (Gd_F (Bn_neF (by omega) (Pick_F (Gd_F (Gd_F (Bn_neF (by omega) (Pick_F (If_F (ldA h 0 rfl rfl ?_))))))))))))))
  refine stA h 5 rfl rfl rfl rfl fun w h => ?_
  refine Bn_ad (by omega) (by omega) (Bn_ad (by omega) (by omega) ?_)
  dsimp only [List.set] at h
  exact hk _ (h.pick [5, 6] (by decide) rfl))
 clear lf hk
 replace h := h.dr
 refine diH h ‹_› (by omega) fun zb zo zk zv zc => ?_
 refine dfS (dh1 h ‹_› ‹_› (by rfl) ?_)
 refine dfS (dl1 h 2 rfl rfl (dvGt hlate ?_))
 clear hlate cc2 cc3 cc4 cc5 hgt
 cases late
 ·refine If_F ?_
  exact lf1 h
 ·refine If_T (cl1 h n_law28_of (cc1 h.ext) fun w h => ?_)
  refine stA h 0 rfl rfl rfl rfl fun w h => ?_
  exact lf1 h
set_option maxHeartbeats 16000000 in
theorem wl_2T {t10 : Value} (hz : I64 z.op ∧ I64 z.ve ∧ I64 z.st) (hl : I64 z.lim) (sm : Sm 1 z.mu) (sb : Sm 1000 z.bet) (hq : ∀ late, SR 2 1 (fct z late)) {c : Nat} (hc : c ≤ 30) (hsr : SR (1 + 2 * c) (1 + c) E)
 (hk1 : conW z f = true → ∀ W, Hp [] w0 W [bx gb tR (fR (tx (E * fct z (decide (z.lim < f.lo))))), bx ga tWc (cT z)] → k1 (.int .i64 ((s : Int) + 1)) (.int .i64 ((i : Int) + 1)) W)
 (hk2 : conW z f = false → ∀ W, Hp [] w0 W [bx gb tR (fR (tx E)), bx ga tWc (cT z)] → k1 (.int .i64 (s : Int)) (.int .i64 ((i : Int) + 1)) W)
 (h : Hp [] w0 W [bx gb tR (fR (tx E)), bx ga tWc (cT z)]) :
 s_law28_AlarmWealth_2 Tryz.prog (.bool true) fv (.int .i64 (i : Int)) (pr ga 0) (.int .i64 (s : Int)) (pr gb 0) t10 k1 W R := by
 have hi := (List.getElem?_eq_some_iff.1 hf).1
 have f1 := hfi.tr
 have f4 := hfi.ve
 have f5 := hfi.op
 have z1 := hz.1
 have z2 := hz.2.1
 have z3 := hz.2.2
 have sf : Seg (fl.flatMap fF) (i * 10) (fF f) := flat_seg (f := fF) (fun _ => rfl) hf
 have lfF : conW z f = false → ∀ {W : World}, Hp [] w0 W.drew [bx gb tR (fR (tx E)), bx ga tWc (cT z)] → s_law28_AlarmWealth_3 Tryz.prog (.bool true) (.int .i64 (i : Int)) (.int .i64 (s : Int)) fv (pr ga 0) (pr gb 0) k1 W R := fun hc {W} h => wl_3T hE sF hn hf hfi hs (hk2 hc) h
 have lfT : conW z f = true → ∀ {W : World}, Hp [] w0 W.drew [bx gb tR (fR (tx E)), bx ga tWc (cT z)] → s_law28_AlarmWealth_3 Tryz.prog (.bool false) (.int .i64 (i : Int)) (.int .i64 (s : Int)) fv (pr ga 0) (pr gb 0) k1 W R := fun hcc {W} h => wl_3F hE sF hn hf hfi hs hl sm sb hq hc hsr (hk1 hcc) h
 clear hk1 hk2
 unfold s_law28_AlarmWealth_2
 by_cases ho : f.op = z.op
 rotate_left
 ·have lf := @lfF (by unfold conW; rw [beq_eq_false_iff_ne.2 ho]; rfl)
  refine If_T ?_
  replace h := h.dr
  refine diH h ‹_› (by omega) fun zb zo zk zv zc => ?_
  refine dfS (dh1 h ‹_› ‹_› (by rfl) ?_)
  refine dfS (dl1 h 1 rfl rfl (Dv_neT (by omega) (GdP_TF (GdP_TF (GdP_TF (GdP_TF (GdP_TF (GdP_TF (GdP_TF (GdP_TF (PickP_T (GdP_TF (GdP_TF (GdP_TF (GdP_TF (GdP_TF (GdP_TF (GdP_TF (GdP_TF (PickP_T ?_))))))))))))))))))))
  exact lf h
 by_cases hv : f.ve = z.ve
 rotate_left
 ·have lf := @lfF (by unfold conW; rw [beq_eq_false_iff_ne.2 hv, Bool.and_false, Bool.false_and])
  refine If_T ?_
  replace h := h.dr
  refine diH h ‹_› (by omega) fun zb zo zk zv zc => ?_
  refine dfS (dh1 h ‹_› ‹_› (by rfl) ?_)
  refine dfS (dl1 h 1 rfl rfl (Dv_neF (by omega) (GdP_F (GdP_F (GdP_F (diH h ‹_› (by omega) fun zb zo zk zv zc => ?_))))))
  refine GdP_F (dfS (GdP_F (dh1 h ‹_› ‹_› (by rfl) ?_)))
  refine GdP_F (dfS (GdP_F (dl1 h 1 rfl rfl (GdP_F (Dv_neT (by omega) (PickP_F (GdP_TF (GdP_TF (GdP_TF (GdP_TF (GdP_TF (GdP_TF (GdP_TF (GdP_TF (PickP_T ?_)))))))))))))))
  exact lf h
 by_cases ht : f.tr ≤ z.st
 ·have lf := @lfF (by unfold conW; rw [decide_eq_false (show ¬ z.st < f.tr by omega), Bool.and_false])
  refine If_T ?_
  replace h := h.dr
  refine diH h ‹_› (by omega) fun zb zo zk zv zc => ?_
  refine dfS (dh1 h ‹_› ‹_› (by rfl) ?_)
  refine dfS (dl1 h 1 rfl rfl (Dv_neF (by omega) (GdP_F (GdP_F (GdP_F (diH h ‹_› (by omega) fun zb zo zk zv zc => ?_))))))
  refine GdP_F (dfS (GdP_F (dh1 h ‹_› ‹_› (by rfl) ?_)))
  refine GdP_F (dfS (GdP_F (dl1 h 1 rfl rfl (GdP_F (Dv_neF (by omega) (PickP_F (GdP_F (GdP_F (GdP_F (diH h ‹_› (by omega) fun zb zo zk zv zc => ?_))))))))))
  refine GdP_F (dfS (GdP_F (dh1 h ‹_› ‹_› (by rfl) ?_)))
  refine GdP_F (dfS (GdP_F (dl1 h 1 rfl rfl (GdP_F (Dv_leT (by omega) (PickP_F ?_))))))
  exact lf h
 ·have lf := @lfT (by unfold conW; rw [decide_eq_true (show z.st < f.tr by omega), ho, hv, beq_self_eq_true, beq_self_eq_true]; rfl)
  refine If_T ?_
  replace h := h.dr
  refine diH h ‹_› (by omega) fun zb zo zk zv zc => ?_
  refine dfS (dh1 h ‹_› ‹_› (by rfl) ?_)
  refine dfS (dl1 h 1 rfl rfl (Dv_neF (by omega) (GdP_F (GdP_F (GdP_F (diH h ‹_› (by omega) fun zb zo zk zv zc => ?_))))))
  refine GdP_F (dfS (GdP_F (dh1 h ‹_› ‹_› (by rfl) ?_)))
  refine GdP_F (dfS (GdP_F (dl1 h 1 rfl rfl (GdP_F (Dv_neF (by omega) (PickP_F (GdP_F (GdP_F (GdP_F (diH h ‹_› (by omega) fun zb zo zk zv zc => ?_))))))))))
  refine GdP_F (dfS (GdP_F (dh1 h ‹_› ‹_› (by rfl) ?_)))
  refine GdP_F (dfS (GdP_F (dl1 h 1 rfl rfl (GdP_F (Dv_leF (by omega) (PickP_F ?_))))))
  exact lf h
end
theorem dvBT {wi : Bool} {a : Bool} {c : Bool} {w : World} {KP : Value → Prop} (hk : KP (.bool true)) : Dv Tryz.prog wi (bn .eql 4 c (.bool a) (.bool a)) w KP := by
 cases wi <;> cases a <;> exact ⟨_, by first | rfl | (intro W; rfl), hk⟩
set_option maxHeartbeats 16000000 in
theorem wl_4 {w0 : World} {R : Ending → World → Prop} {fv : Value} {fl : List Ft} {ga gb g10 s n : Nat} {z y : Wt} {E : Rat} {B : RS} {a : Option Addr} {b c : Nat} (hE : En w0) (hR : ∀ W, Ext w0 W → R (.returned (.bool true)) W)
 (sF : SlC w0 10 fv fl.length (fl.flatMap fF)) (hV : VFs fl) (hz : I64 z.op ∧ I64 z.ve ∧ I64 z.st) (ba : Blk w0 ga tWc (cT z)) (bb : Blk w0 gb tR (fR (tx E))) (b10 : Blk w0 g10 tAl [str B.1, str B.2, .slice a b c]) (s10 : SlC w0 15 (.slice a b c) 1 (([y].map wr).flatMap fW))
 (hy : VW 1000 y) (hsn : y.sn = (s : Int)) (hle : y.we ≤ E) (hEB : RB E) (hru : y.ru = true ∨ s = (cfc z fl).length) :
 s_law28_AlarmWealth_4 Tryz.prog (pr g10 2) fv (pr ga 0) (.int .i64 (s : Int)) (pr gb 0) w0 R := by
 have z1 := hz.1
 have z2 := hz.2.1
 have z3 := hz.2.2
 have sy : Seg (([y].map wr).flatMap fW) (0 * 15) (cT y) := flat_seg (f := fW) (fun _ => rfl) (l := [y].map wr) (a := wr y) rfl
 have cc1 := fun {W : World} (e : Ext w0 W) => k_mul (w := W) (we_sr hy.we0 hy.we1 hy.wd) (Sm.sr1 hy.al) (by decide) (by decide) (hE.hT.ext e)
 unfold s_law28_AlarmWealth_4
 have h := Hp.init [] w0
 refine lg1 h ‹_› (by rfl) ?_
 refine iaHz h ‹_› (by omega) (by omega) fun zb zo zk zv zc => ?_
 refine lcA ‹_› (by rfl) ?_
 refine alS h fun g1 w h => ?_
 refine stA h 0 rfl rfl rfl rfl fun w h => ?_
 refine faS (ldA h 0 rfl rfl ?_)
 refine faS (ldA h 0 rfl rfl ?_)
 refine cl1 h n_rational_Mul (cc1 h.ext) fun w h => ?_
 refine Ex2 (alS h fun g2 w h => ?_)
 refine stA h 0 rfl rfl rfl rfl fun w h => ?_
 dsimp only [List.set] at h
 refine Lp2.mk (fun p q W => ∃ i : Nat, i ≤ fl.length ∧ p = .int .i64 ((cfc z (fl.take i)).length : Nat) ∧ q = .int .i64 i ∧ Hp [] w0 W [bx g2 tR (fR (tx (y.we * y.al))), bx g1 tWc (cT y)])
  (fun _ q _ => match q with | .int _ i' => fl.length - i'.toNat | _ => 0) ⟨0, by omega, rfl, rfl, h⟩ ?_
 clear h cc1
 rintro _ _ W ⟨i, hi, rfl, rfl, h⟩
 have hfn := hV.1
 have hcl : (cfc z (fl.take i)).length ≤ 400 := by
  have h1 : (cfc z (fl.take i)).length ≤ (fl.take i).length := List.length_filter_le _ _
  rw [List.length_take] at h1
  omega
 by_cases hin : i < fl.length
 ·refine Exists.elim (p := fun x => fl[i]? = some x) ⟨_, List.getElem?_eq_getElem hin⟩ fun f hf => ?_
  have sf : Seg (fl.flatMap fF) (i * 10) (fF f) := flat_seg (f := fF) (fun _ => rfl) hf
  have hfi := vfs_fi hV f (List.mem_of_getElem? hf)
  have f1 := hfi.tr
  have f4 := hfi.ve
  have f5 := hfi.op
  have cs := congrArg List.length (cfc_snoc (w := z) hf)
  rw [List.length_append] at cs
  by_cases ho : f.op = z.op
  rotate_left
  ·have hc : conW z f = false := by unfold conW; rw [beq_eq_false_iff_ne.2 ho]; rfl
   rw [hc] at cs
   refine leS (sF.hp h) ?_
   refine Bn_ltT (by omega) (If_T ?_)
   replace h := h.dr
   refine diH h ‹_› (by omega) fun zb zo zk zv zc => ?_
   refine dfS (dh1 h ‹_› ‹_› (by rfl) ?_)
   refine dfS (dg1 h ‹_› (by rfl) ?_)
   refine Dv_eqF (by omega) (GdP_FT (GdP_FT (GdP_FT (GdP_FT (GdP_FT (GdP_FT (GdP_FT (GdP_FT (PickP_F (GdP_FT (GdP_FT (GdP_FT (GdP_FT (GdP_FT (GdP_FT (GdP_FT (GdP_FT (PickP_F (If_F (Bn_ad (by omega) (by omega) ?_))))))))))))))))))))
   exact ⟨⟨i + 1, by omega, by rw [cs]; rfl, rfl, h⟩, by show fl.length - ((i : Int) + 1).toNat < fl.length - (i : Int).toNat; omega⟩
  by_cases hv : f.ve = z.ve
  rotate_left
  ·have hc : conW z f = false := by unfold conW; rw [beq_eq_false_iff_ne.2 hv, Bool.and_false, Bool.false_and]
   rw [hc] at cs
   refine leS (sF.hp h) ?_
   refine Bn_ltT (by omega) (If_T ?_)
   replace h := h.dr
   refine diH h ‹_› (by omega) fun zb zo zk zv zc => ?_
   refine dfS (dh1 h ‹_› ‹_› (by rfl) ?_)
   refine dfS (dg1 h ‹_› (by rfl) ?_)
   refine Dv_eqT (by omega) (GdP_T (GdP_T (GdP_T (diH h ‹_› (by omega) fun zb zo zk zv zc => ?_))))
   refine GdP_T (dfS (GdP_T (dh1 h ‹_› ‹_› (by rfl) ?_)))
   refine GdP_T (dfS (GdP_T (dg1 h ‹_› (by rfl) ?_)))
   refine GdP_T (Dv_eqF (by omega) (PickP_T (GdP_FT (GdP_FT (GdP_FT (GdP_FT (GdP_FT (GdP_FT (GdP_FT (GdP_FT (PickP_F (If_F (Bn_ad (by omega) (by omega) ?_)))))))))))))
   exact ⟨⟨i + 1, by omega, by rw [cs]; rfl, rfl, h⟩, by show fl.length - ((i : Int) + 1).toNat < fl.length - (i : Int).toNat; omega⟩
  by_cases ht : z.st < f.tr
  rotate_left
  ·have hc : conW z f = false := by unfold conW; rw [decide_eq_false ht, Bool.and_false]
   rw [hc] at cs
   refine leS (sF.hp h) ?_
   refine Bn_ltT (by omega) (If_T ?_)
   replace h := h.dr
   refine diH h ‹_› (by omega) fun zb zo zk zv zc => ?_
   refine dfS (dh1 h ‹_› ‹_› (by rfl) ?_)
   refine dfS (dg1 h ‹_› (by rfl) ?_)
   refine Dv_eqT (by omega) (GdP_T (GdP_T (GdP_T (diH h ‹_› (by omega) fun zb zo zk zv zc => ?_))))
   refine GdP_T (dfS (GdP_T (dh1 h ‹_› ‹_› (by rfl) ?_)))
   refine GdP_T (dfS (GdP_T (dg1 h ‹_› (by rfl) ?_)))
   refine GdP_T (Dv_eqT (by omega) (PickP_T (GdP_T (GdP_T (GdP_T (diH h ‹_› (by omega) fun zb zo zk zv zc => ?_))))))
   refine GdP_T (dfS (GdP_T (dh1 h ‹_› ‹_› (by rfl) ?_)))
   refine GdP_T (dfS (GdP_T (dg1 h ‹_› (by rfl) ?_)))
   refine GdP_T (Dv_gtF (by omega) (PickP_T (If_F (Bn_ad (by omega) (by omega) ?_))))
   exact ⟨⟨i + 1, by omega, by rw [cs]; rfl, rfl, h⟩, by show fl.length - ((i : Int) + 1).toNat < fl.length - (i : Int).toNat; omega⟩
  have hc : conW z f = true := by unfold conW; rw [decide_eq_true ht, ho, hv, beq_self_eq_true, beq_self_eq_true]; rfl
  rw [hc] at cs
  refine leS (sF.hp h) ?_
  refine Bn_ltT (by omega) (If_T ?_)
  replace h := h.dr
  refine diH h ‹_› (by omega) fun zb zo zk zv zc => ?_
  refine dfS (dh1 h ‹_› ‹_› (by rfl) ?_)
  refine dfS (dg1 h ‹_› (by rfl) ?_)
  refine Dv_eqT (by omega) (GdP_T (GdP_T (GdP_T (diH h ‹_› (by omega) fun zb zo zk zv zc => ?_))))
  refine GdP_T (dfS (GdP_T (dh1 h ‹_› ‹_› (by rfl) ?_)))
  refine GdP_T (dfS (GdP_T (dg1 h ‹_› (by rfl) ?_)))
  refine GdP_T (Dv_eqT (by omega) (PickP_T (GdP_T (GdP_T (GdP_T (diH h ‹_› (by omega) fun zb zo zk zv zc => ?_))))))
  refine GdP_T (dfS (GdP_T (dh1 h ‹_› ‹_› (by rfl) ?_)))
  refine GdP_T (dfS (GdP_T (dg1 h ‹_› (by rfl) ?_)))
  refine GdP_T (Dv_gtT (by omega) (PickP_T (If_T (Bn_ad (by omega) (by omega) (Bn_ad (by omega) (by omega) ?_)))))
  exact ⟨⟨i + 1, by omega, by rw [cs]; rfl, rfl, h⟩, by show fl.length - ((i : Int) + 1).toNat < fl.length - (i : Int).toNat; omega⟩
 have hie : (cfc z (fl.take i)).length = (cfc z fl).length := by rw [show i = fl.length by omega, List.take_length]
 have hyw := VW.wrb hy
 have hpr : RB (y.we * y.al) := (SR.mul (we_sr hy.we0 hy.we1 hy.wd) (Sm.sr1 hy.al)).rb (by decide) (by decide)
 have c1 := (cmp_le y.we E).2 hle
 have c2 : 0 ≤ cmpQ y.we (xL false) := (cmp_ge _ _).2 hy.we0
 have cc0 : ∀ {W : World}, Ext w0 W → Calls Tryz.prog 30 #[.int .i64 0, .int .i64 1] W (Ret fun r w' => Ext W w' ∧ r = vR (tx (xL false))) := fun {W} e => by
  have := c_of (w := W) (n := 0) (d := 1) (hE.hT.ext e) (by decide) (by decide) (by decide)
  rw [q_div1] at this
  exact this
 have cc1 : ∀ {W : World}, Ext w0 W → Calls Tryz.prog 30 #[.int .i64 1, .int .i64 1] W (Ret fun r w' => Ext W w' ∧ r = vR (tx (xL true))) := fun {W} e => by
  have := c_of (w := W) (n := 1) (d := 1) (hE.hT.ext e) (by decide) (by decide) (by decide)
  rw [q_div1] at this
  exact this
 have cc2 := fun {W : World} (e : Ext w0 W) => k_cmp (w := W) hyw hEB (hE.hT.ext e)
 have cc3 := fun {W : World} (e : Ext w0 W) => k_cmp (w := W) hyw ((xL_SR false).rb (by decide) (by decide)) (hE.hT.ext e)
 have cc4 := fun {W : World} (e : Ext w0 W) => k_cmp (w := W) hpr ((xL_SR true).rb (by decide) (by decide)) (hE.hT.ext e)
 have hyr := hy.ru
 by_cases hr : y.ru = true
 ·have c3 : 0 ≤ cmpQ (y.we * y.al) (xL true) := by
   rw [hr] at hyr
   exact (cmp_ge _ _).2 (of_decide_eq_true hyr.symm)
  have ey : cT y = cW y.op y.ve y.lim (tx y.mu) (tx y.al) (tx y.bet) y.st y.th s (tx y.we) true := by rw [← hr, ← hsn]
  rw [ey] at h
  refine leS (sF.hp h) ?_
  refine Bn_ltF (by omega) (If_F ?_)
  replace h := h.dr
  refine Dv_eqT (by omega) (GdP_T (GdP_T (dfS (GdP_T (dl1 h 1 rfl rfl (GdP_T (Dv_eqT (by omega) (PickP_T (GdP_T (dfS (GdP_T (dlA h 1 rfl rfl ?_))))))))))))
  refine GdP_T (dgA h ‹_› (by rfl) ?_)
  refine Gd_T (cl1 h n_rational_Compare (cc2 h.ext) fun w h => ?_)
  refine GdP_T (Dv_leT (by omega) (PickP_T (GdP_T (dfS (GdP_T (dlA h 1 rfl rfl ?_))))))
  refine Gd_T (cl1 h n_law28_of (cc0 h.ext) fun w h => ?_)
  refine Kg_T ?_
  refine klA h 1 rfl rfl ?_
  refine Gd_T (cl1 h n_rational_Compare (cc3 h.ext) fun w h => ?_)
  refine GdP_T (Dv_geT (by omega) (PickP_T (GdP_T (dfS (GdP_T (dl1 h 1 rfl rfl (GdP_T (dlA h 0 rfl rfl ?_))))))))
  refine Gd_T (cl1 h n_law28_of (cc1 h.ext) fun w h => ?_)
  refine Kg_T ?_
  refine kl1 h 1 rfl rfl (Kg_T ?_)
  refine klA h 0 rfl rfl ?_
  refine Gd_T (cl1 h n_rational_Compare (cc4 h.ext) fun w h => ?_)
  refine Kg_T ?_
  refine kl1 h 1 rfl rfl (GdP_T (Dv_geT (by omega) (GdP_T (dvBT ?_))))
  refine PickP_T (GdP_T (dfS (GdP_T (dl1 h 1 rfl rfl (GdP_T (GdP_TF (GdP_TF (GdP_TF (GdP_TF (GdP_T (PickP_T (PickP_T ?_))))))))))))
  exact hR _ h.ext
 ·have hrf := eq_false_of_ne_true hr
  have hse : s = (cfc z fl).length := hru.resolve_left hr
  have c3 : ¬ 0 ≤ cmpQ (y.we * y.al) (xL true) := by
   rw [hrf] at hyr
   exact fun hc => of_decide_eq_false hyr.symm ((cmp_ge _ _).1 hc)
  have ey : cT y = cW y.op y.ve y.lim (tx y.mu) (tx y.al) (tx y.bet) y.st y.th s (tx y.we) false := by rw [← hrf, ← hsn]
  rw [ey] at h
  refine leS (sF.hp h) ?_
  refine Bn_ltF (by omega) (If_F ?_)
  replace h := h.dr
  refine Dv_eqT (by omega) (GdP_T (GdP_T (dfS (GdP_T (dl1 h 1 rfl rfl (GdP_T (Dv_eqT (by omega) (PickP_T (GdP_T (dfS (GdP_T (dlA h 1 rfl rfl ?_))))))))))))
  refine GdP_T (dgA h ‹_› (by rfl) ?_)
  refine Gd_T (cl1 h n_rational_Compare (cc2 h.ext) fun w h => ?_)
  refine GdP_T (Dv_leT (by omega) (PickP_T (GdP_T (dfS (GdP_T (dlA h 1 rfl rfl ?_))))))
  refine Gd_T (cl1 h n_law28_of (cc0 h.ext) fun w h => ?_)
  refine Kg_T ?_
  refine klA h 1 rfl rfl ?_
  refine Gd_T (cl1 h n_rational_Compare (cc3 h.ext) fun w h => ?_)
  refine GdP_T (Dv_geT (by omega) (PickP_T (GdP_T (dfS (GdP_T (dl1 h 1 rfl rfl (GdP_T (dlA h 0 rfl rfl ?_))))))))
  refine Gd_T (cl1 h n_law28_of (cc1 h.ext) fun w h => ?_)
  refine Kg_T ?_
  refine kl1 h 1 rfl rfl (Kg_T ?_)
  refine klA h 0 rfl rfl ?_
  refine Gd_T (cl1 h n_rational_Compare (cc4 h.ext) fun w h => ?_)
  refine Kg_T ?_
  refine kl1 h 1 rfl rfl (GdP_T (Dv_geF (by omega) (GdP_T (dvBT ?_))))
  refine PickP_T (GdP_T (dfS (GdP_T (dl1 h 1 rfl rfl (GdP_T (GdP_F (dfS (GdP_F (dl1 h 1 rfl rfl (GdP_F (GdP_F (Dv_eqT (by omega) (GdP_T (PickP_F (PickP_T ?_)))))))))))))))
  exact hR _ h.ext
set_option maxHeartbeats 16000000 in
theorem wl_1 {w0 : World} {R : Ending → World → Prop} {fv : Value} {fl : List Ft} {g10 : Nat} {x : I6} {B : RS} {a : Option Addr} {b c : Nat} (hE : En w0) (hR : ∀ W, Ext w0 W → R (.returned (.bool true)) W)
 (sF : SlC w0 10 fv fl.length (fl.flatMap fF)) (hV : VFs fl) (hfn : fl.length ≤ 20) (b10 : Blk w0 g10 tAl [str B.1, str B.2, .slice a b c])
 (s10 : SlC w0 15 (.slice a b c) 1 (([obs1 (fresh [] (mkW x)).th (fresh [] (mkW x)) fl].map wr).flatMap fW)) :
 s_law28_AlarmWealth_1 Tryz.prog (vC (fresh [] (mkW x)).op (fresh [] (mkW x)).ve (fresh [] (mkW x)).lim (tx (fresh [] (mkW x)).mu) (tx (fresh [] (mkW x)).al) (tx (fresh [] (mkW x)).bet) (fresh [] (mkW x)).st (fresh [] (mkW x)).th (fresh [] (mkW x)).sn (tx (fresh [] (mkW x)).we) (fresh [] (mkW x)).ru) fv (pr g10 0) w0 R := by
 obtain ⟨k, hw⟩ := wl_law x fl
 have hvw := fr_ok x
 have hq : ∀ late, SR 2 1 (fct (fresh [] (mkW x)) late) := fct_mk x
 have hy0 := (VW.obs1 (fresh [] (mkW x)).th hvw (l := fl) fun f hf => (hV.2.1 f hf).1.2).mono (m := 1000) (by omega)
 have h0 : (fresh [] (mkW x)).sn = 0 := rfl
 have h1 : (fresh [] (mkW x)).we = 1 := rfl
 obtain ⟨z, hz⟩ : ∃ z, fresh [] (mkW x) = z := ⟨_, rfl⟩
 rw [hz] at hw hvw hq hy0 h0 h1 s10 ⊢
 clear hz
 obtain ⟨y, hy⟩ : ∃ y, obs1 z.th z fl = y := ⟨_, rfl⟩
 rw [hy] at hw hy0 s10
 clear hy
 obtain ⟨hk1, hk2, hk3, hk4, hk5⟩ := hw
 rw [h0, Int.zero_add] at hk2
 rw [h1, Rat.one_mul] at hk3
 have hcl : (cfc z fl).length ≤ 20 := Nat.le_trans (List.length_filter_le _ _) hfn
 have z1 := hvw.op
 have z2 := hvw.ve
 have z3 := hvw.st
 have z4 := hvw.lim
 have hI : I64 z.op ∧ I64 z.ve ∧ I64 z.st := by omega
 have sy : Seg (([y].map wr).flatMap fW) (0 * 15) (cW y.op y.ve y.lim (tx y.mu) (tx y.al) (tx y.bet) y.st y.th k (tx y.we) y.ru) := by
  have : Seg (([y].map wr).flatMap fW) (0 * 15) (cT y) := flat_seg (f := fW) (fun _ => rfl) (l := [y].map wr) (a := wr y) rfl
  rw [show cT y = cW y.op y.ve y.lim (tx y.mu) (tx y.al) (tx y.bet) y.st y.th k (tx y.we) y.ru by rw [← hk2]] at this
  exact this
 have cc1 : ∀ {W : World}, Ext w0 W → Calls Tryz.prog 30 #[.int .i64 1, .int .i64 1] W (Ret fun r w' => Ext W w' ∧ r = vR (tx (xL true))) := fun {W} e => by
  have := c_of (w := W) (n := 1) (d := 1) (hE.hT.ext e) (by decide) (by decide) (by decide)
  rw [q_div1] at this
  exact this
 unfold s_law28_AlarmWealth_1
 have h := Hp.init [] w0
 refine alS h fun g1 w h => ?_
 refine stA h 0 rfl rfl rfl rfl fun w h => ?_
 refine cl1 h n_law28_of (cc1 h.ext) fun w h => ?_
 refine alS h fun g2 w h => ?_
 refine stA h 0 rfl rfl rfl rfl fun w h => ?_
 dsimp only [List.set] at h
 refine Lp2.mk (fun p q W => ∃ i : Nat, i ≤ fl.length ∧ (cfc z (fl.take i)).length ≤ k ∧ p = .int .i64 ((cfc z (fl.take i)).length : Nat) ∧ q = .int .i64 i ∧ Hp [] w0 W [bx g2 tR (fR (tx (prodW z (cfc z (fl.take i))))), bx g1 tWc (cT z)])
  (fun _ q _ => match q with | .int _ i' => fl.length - i'.toNat | _ => 0) ⟨0, by omega, by show 0 ≤ k; omega, rfl, rfl, h⟩ ?_
 clear h
 rintro _ _ W ⟨i, hi, hck, rfl, rfl, h⟩
 have hcp := cfc_pre z fl i
 have hple := cfc_le z fl i
 have hpr := prod_SR hq (cfc z (fl.take i))
 obtain ⟨s, hs⟩ : ∃ s, (cfc z (fl.take i)).length = s := ⟨_, rfl⟩
 obtain ⟨E, hEe⟩ : ∃ E, prodW z (cfc z (fl.take i)) = E := ⟨_, rfl⟩
 by_cases hin : i < fl.length ∧ s < k
 ·refine Exists.elim (p := fun x => fl[i]? = some x) ⟨_, List.getElem?_eq_getElem hin.1⟩ fun f hf => ?_
  have hfi := vfs_fi hV f (List.mem_of_getElem? hf)
  have cs := cfc_snoc (w := z) hf
  have hin1 := hin.1
  have hin2 := hin.2
  rw [hs] at hpr hck hple ⊢
  rw [hEe] at hpr h
  refine leS (sF.hp h) ?_
  refine Bn_ltT (by omega) (Gd_T (Gd_T (faS (Gd_T (lg1 h ‹_› (by rfl) ?_)))))
  refine Gd_T (iaHz h ‹_› (by omega) (by omega) fun zb zo zk zv zc => ?_)
  refine Gd_T (faS (Gd_T (lh1 h ‹_› ‹_› (by rfl) ?_)))
  refine Gd_T (Bn_ltT (by omega) (Pick_T ?_))
  refine wl_2T hE sF (by omega) hf hfi (by omega) (c := s) hI (by omega) hvw.mu hvw.bet hq (by omega) hpr (fun hc W' h' => ?_) (fun hc W' h' => ?_) h
  ·rw [hc, if_pos rfl] at cs
   have cl := congrArg List.length cs
   rw [List.length_append, hs] at cl
   refine ⟨⟨i + 1, by omega, by rw [cl]; exact hin2, by rw [cl]; rfl, rfl, ?_⟩, by show fl.length - ((i : Int) + 1).toNat < fl.length - (i : Int).toNat; omega⟩
   rw [cs, Alm.prodW_snoc, hEe]
   exact h'
  ·rw [hc, if_neg (by decide), List.append_nil] at cs
   refine ⟨⟨i + 1, by omega, by rw [cs, hs]; exact hck, by rw [cs, hs], rfl, ?_⟩, by show fl.length - ((i : Int) + 1).toNat < fl.length - (i : Int).toNat; omega⟩
   rw [cs, hEe]
   exact h'
 have hsk : s = k := by
  by_cases hl : i < fl.length
  ·omega
  ·have : fl.take i = fl := List.take_of_length_le (by omega)
   rw [this] at hs hck
   omega
 have hle : y.we ≤ E := by
  rw [← hEe, hcp, hs, hsk]
  exact hk3
 have hru : y.ru = true ∨ s = (cfc z fl).length := by
  cases hr : y.ru
  ·exact .inr (by rw [hsk]; exact hk4 hr)
  ·exact .inl rfl
 have hrb : RB E := by
  rw [← hEe]
  exact hpr.rb (by omega) (by omega)
 have hin2 : ¬ (i < fl.length ∧ s < s) := fun hc => absurd hc.2 (by omega)
 rw [hEe] at h
 rw [hs]
 clear hs hEe hck hcp hple hpr hin cc1
 subst hsk
 have hl4 : ∀ {W : World}, Hp [] w0 W [bx g2 tR (fR (tx E)), bx g1 tWc (cT z)] → s_law28_AlarmWealth_4 Tryz.prog (pr g10 2) fv (pr g1 0) (.int .i64 (s : Int)) (pr g2 0) W R := fun {W} h =>
  wl_4 (n := 0) (hE.ext h.ext) (fun W' e => hR W' (h.ext.tr e)) (sF.ext h.ext) hV hI (h.get (i := 1) rfl) (h.get (i := 0) rfl) (b10.ext h.ext) (s10.ext h.ext) hy0 hk2 hle hrb hru
 have hl2 : ∀ {W : World}, Hp [] w0 W [bx g2 tR (fR (tx E)), bx g1 tWc (cT z)] → ∀ K, s_law28_AlarmWealth_2 Tryz.prog (.bool false) fv (.int .i64 (i : Int)) (pr g1 0) (.int .i64 (s : Int)) (pr g2 0) (pr g10 0) K W R := fun {W} h K => by
  unfold s_law28_AlarmWealth_2
  refine If_F (faS ?_)
  exact hl4 h
 clear hl4
 by_cases hil : i < fl.length
 ·refine leS (sF.hp h) ?_
  refine Bn_ltT (by omega) (Gd_T (Gd_T (faS (Gd_T (lg1 h ‹_› (by rfl) ?_)))))
  refine Gd_T (iaHz h ‹_› (by omega) (by omega) fun zb zo zk zv zc => ?_)
  refine Gd_T (faS (Gd_T (lh1 h ‹_› ‹_› (by rfl) ?_)))
  refine Gd_T (Bn_ltF (by omega) (Pick_T ?_))
  exact hl2 h _
 ·refine leS (sF.hp h) ?_
  refine Bn_ltF (by omega) (Gd_FT (Gd_FT (Gd_FT (Gd_FT (Gd_FT (Gd_FT (Gd_FT (Pick_F ?_))))))))
  exact hl2 h _
end Go.Proofs.YtnkmbjedcjcccaaGreatDoor
namespace Go.Proofs.YtnkmbjedcjcccaaGreatDoor
open Go Go.Eng Go.Proofs Go.Num Go.RowKit
open Go.Alm (Ft Wt Sm VW VA dn fct obs obs1 rungs obsN fresh sumW cfc prodW Wl)
set_option maxRecDepth 100000
theorem regL_one (B : Rat) (x : I6) : regL B (([x] : List I6).take 4) = [] ∨ regL B (([x] : List I6).take 4) = [fresh [] (mkW x)] := by
 show reg1 B [] (mkW x) = [] ∨ reg1 B [] (mkW x) = _
 unfold reg1
 split
 ·exact .inr rfl
 ·exact .inl rfl
section
variable {w0 : World} {b : Int} {x : I6} {v2 : Value} {l3 : List I3} (hE : En w0) (hb : I64 b) (hx : ∀ i, I64 (x i)) (h2 : SlC w0 3 v2 l3.length (l3.flatMap fT)) (o2 : I3ok l3) (n2 : l3.length ≤ 9223372036854775807)
include hE hb hx h2 o2 n2
set_option maxHeartbeats 16000000 in
theorem law_Wealth : Calls Tryz.prog 8 #[.int .i64 b, vX x, v2] w0 (Ret fun r w' => Ext w0 w' ∧ r = .bool true) := by
 have ccs := fun {W : World} (e : Ext w0 W) => c_sane (w0 := W) (hE.ext e)
 obtain ⟨B, hB⟩ : ∃ B, bud b = B := ⟨_, rfl⟩
 obtain ⟨ws, hws⟩ : ∃ ws, regL (bud b) (([x] : List I6).take 4) = ws := ⟨_, rfl⟩
 have hone := regL_one (bud b) x
 have hVB : VB 0 B ws := by rw [← hws, ← hB]; exact regL_VB b _
 have ccr := fun {W : World} {v : Value} (e : Ext w0 W) (hv : SlC W 6 v ([x] : List I6).length (([x] : List I6).flatMap fX6)) => c_regd (w0 := W) (hE.ext e) hb hv (fun y hy => by rw [List.mem_singleton.1 hy]; exact hx) (by show 1 ≤ _; decide)
 rw [hws, hB] at ccr
 rw [hws] at hone
 clear hws hB
 apply e_law28_AlarmWealth
 apply u_law28_AlarmWealth
 unfold s_law28_AlarmWealth_0 vX
 have h := Hp.init [] w0
 refine bxA h fun g1 w h => ?_
 refine cl1 h n_law28_sane (ccs h.ext) fun w h => ?_
 refine Un_T (If_F (ldA h 0 rfl rfl ?_))
 refine bs1A h (by rfl) (by decide) (by rfl) (by decide) fun v1 w h => ?_
 refine Cl_i n_law28_registered (ccr h.ext (qZ 0 h rfl)) ?_
 rintro _ W1 ⟨x1, y1, z1, rfl, k1⟩
 have e1 := h.ext.tr k1.ext
 have sa : SlC W1 15 (.slice x1 y1 z1) ws.length ((ws.map wr).flatMap fW) := (k1.get (i := 0) rfl).1
 clear h k1 ccr ccs
 have h := Hp.init [] W1
 have h2 := h2.ext e1
 refine Ex2 (alS h fun g2 w h => ?_)
 refine stA h 0 rfl rfl rfl rfl fun w h => ?_
 refine leS (h2.hp h) ?_
 refine Bt_mi ?_
 refine scHz (h2.hp h) (by first | omega | decide) (by first | omega | decide) fun v3 p1 => ?_
 dsimp only [List.set] at h
 have hm : (min (l3.length : Int) 20).toNat = (l3.take 20).length := by rw [List.length_take]; omega
 have s3 : SlC w 3 v3 (l3.take 20).length ((l3.take 20).flatMap fT) := by
  have := p1.2 _ (h2.ext h.ext)
  rw [hm] at this
  have e : (l3.flatMap fT).take ((l3.take 20).length * 3) = (l3.take 20).flatMap fT := by
   rw [take_flat (c := 3) (f := fT) (fun _ => rfl)]
   congr 1
   rw [List.length_take]
   by_cases hc : l3.length ≤ 20
   ·rw [List.take_of_length_le (by omega), List.take_of_length_le hc]
   ·rw [show min 20 l3.length = 20 by omega]
  rw [e] at this
  exact this
 clear p1 hm
 have o3 : I3ok (l3.take 20) := fun a ha => o2 a (List.mem_of_mem_take ha)
 have n3 : (l3.take 20).length ≤ 20 := by rw [List.length_take]; omega
 have hV : VFs (fcts (l3.take 20) 30) := fcts_VFs _ (by decide)
 have hfn : (fcts (l3.take 20) 30).length ≤ 20 := by unfold fcts; rw [List.length_mapIdx, List.length_take]; omega
 refine Cl_i n_ref28_Facts (c_Facts s3 o3 (by omega)) ?_
 rintro fv W2 k2
 have sF := k2.sl (i := 0) rfl
 obtain ⟨fl, hfl⟩ : ∃ fl, fcts (l3.take 20) 30 = fl := ⟨_, rfl⟩
 rw [hfl] at sF hV hfn
 have e2 := e1.tr (h.ext.tr k2.ext)
 have sa := (sa.hp h).ext k2.ext
 have ba : Blk W2 g2 tAl [str (tx B).1, str (tx B).2, .slice x1 y1 z1] := (h.get (i := 0) rfl : Blk _ _ _ _).ext k2.ext
 clear h k2 hfl s3 o3 n3 h2 e1 o2
 have h := Hp.init [] W2
 refine lgA h ‹_› (by rfl) ?_
 refine Cl_i n_alarm_Observe (c_ObsK (fl := fl) hVB (by decide) (sa.ext h.ext) (hE.ext (e2.tr h.ext)) (Fk.of (sF.ext h.ext) hV) hV (by omega)) ?_
 rintro _ W3 ⟨x3, y3, z3, p3, q3, r3, rfl, k1⟩
 have h := h.cat2 k1 ro_sm ro_sm
 clear k1
 have hR : ∀ W, Ext W2 W → Ret (fun r w' => Ext w0 w' ∧ r = Value.bool true) (.returned (.bool true)) W := fun W e => Ret.mk ⟨e2.tr e, rfl⟩
 have hE2 := hE.ext e2
 rcases hone with hone | hone
 ·rw [hone] at sa h
  replace sa : SlC W2 15 (.slice x1 y1 z1) 0 [] := sa
  replace h : Hp [] W2 W3 [ro tWc 15 (.slice x3 y3 z3) 0 [], ro 3 1 (.slice p3 q3 r3) 0 []] := h
  clear hVB hone e2 hE
  refine Ex3 (alS h fun g3 w h => ?_)
  refine stA h 0 rfl rfl rfl rfl fun w h => ?_
  refine Un_T (Gd_F (Gd_F (Bn_neF (by omega) (Pick_F (Gd_F (faS (Gd_F (Eng.ld1 h 0 rfl rfl (Gd_F (leS (qZ 1 h rfl) ?_))))))))))
  refine Gd_F (faS (Gd_F (lg1 h ‹_› (by rfl) ?_)))
  refine Gd_F (leS (sa.hp h) ?_)
  refine Gd_F (Bn_neF (by omega) (Pick_F (If_F (faS (lg1 h ‹_› (by rfl) ?_)))))
  refine leS (sa.hp h) ?_
  refine Bn_eqT (by omega) (If_T ?_)
  dsimp only [List.set] at h
  exact hR _ h.ext
 ·rw [hone] at sa h
  obtain ⟨z, hz⟩ : ∃ z, fresh [] (mkW x) = z := ⟨_, rfl⟩
  have hl1 := fun {W : World} (hE : En W) (hR : ∀ W', Ext W W' → Ret (fun r w' => Ext w0 w' ∧ r = Value.bool true) (.returned (.bool true)) W') (sF : SlC W 10 fv fl.length (fl.flatMap fF)) {g10 : Nat} (b10 : Blk W g10 tAl [str (tx B).1, str (tx B).2, .slice x3 y3 z3]) (s10 : SlC W 15 (.slice x3 y3 z3) 1 (([obs1 (fresh [] (mkW x)).th (fresh [] (mkW x)) fl].map wr).flatMap fW)) => wl_1 (x := x) hE hR sF hV hfn b10 s10
  rw [hz] at sa h hl1
  clear hz hVB hone e2 hE
  have sz : Seg (([z].map wr).flatMap fW) (0 * 15) (cT z) := flat_seg (f := fW) (fun _ => rfl) (l := [z].map wr) (a := wr z) rfl
  replace sa : SlC W2 15 (.slice x1 y1 z1) 1 (([z].map wr).flatMap fW) := sa
  replace h : Hp [] W2 W3 [ro tWc 15 (.slice x3 y3 z3) 1 (([obs1 z.th z fl].map wr).flatMap fW), ro 3 1 (.slice p3 q3 r3) (rungs [z] (obs [z] fl) 0).length ((rungs [z] (obs [z] fl) 0).flatMap fN)] := h
  refine Ex3 (alS h fun g3 w h => ?_)
  refine stA h 0 rfl rfl rfl rfl fun w h => ?_
  refine Un_T (Gd_F (Gd_F (Bn_neF (by omega) (Pick_F (Gd_F (faS (Gd_F (Eng.ld1 h 0 rfl rfl (Gd_F (leS (qZ 1 h rfl) ?_))))))))))
  refine Gd_F (faS (Gd_F (lg1 h ‹_› (by rfl) ?_)))
  refine Gd_F (leS (sa.hp h) ?_)
  refine Gd_F (Bn_neF (by omega) (Pick_F (If_F (faS (lg1 h ‹_› (by rfl) ?_)))))
  refine leS (sa.hp h) ?_
  refine Bn_eqF (by omega) (If_F (faS (lg1 h ‹_› (by rfl) ?_)))
  refine iaHz h ‹_› (by omega) (by omega) fun zb zo zk zv zc => ?_
  refine lhA h ‹_› ‹_› (by rfl) ?_
  dsimp only [List.set] at h
  exact hl1 (hE2.ext h.ext) (fun W e => hR W (h.ext.tr e)) (sF.ext h.ext) (h.get (i := 0) rfl) (qZ 1 h rfl)
end
end Go.Proofs.YtnkmbjedcjcccaaGreatDoor
