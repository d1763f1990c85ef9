/-
  Contracts and plain lemmas. By an AI agent.
-/
import Derived.Test.YtnkmbjedcjcccaaGreatDoorLAmN
import Derived.Test.YtnkmbjedcjcccaaGreatDoorTyp
import Derived.Test.YtnkmbjedcjcccaaGreatDoorAmK
import Derived.Test.YtnkmbjedcjcccaaGreatDoorPlain
set_option linter.unusedSimpArgs false
set_option linter.unusedVariables false
set_option linter.unusedSectionVars false
namespace Go.Proofs.YtnkmbjedcjcccaaGreatDoor
open Go Go.Eng
set_option maxRecDepth 100000
def s_law28_AlarmFalse_11 (P : Program) (t13 : Value) (t294 : Value) (w : World) (R : Ending → World → Prop) : Prop :=
 Ld P 25 t13 w fun t295 w =>
 Cl P 34 #[t294, t295] w (Pk R) fun t296 w =>
 Bn P .leq 3 true t296 (.int .i64 0) w fun t297 w =>
 R (.returned t297) w
def s_law28_AlarmFalse_10 (P : Program) (t18 : Value) (t286 : Value) (t16 : Value) (t17 : Value) (k2 : Value → World → Prop) (w : World) (R : Ending → World → Prop) : Prop :=
 Ld P 25 t18 w fun t287 w =>
 Cl P 35 #[t286, t287] w (Pk R) fun t288 w =>
 Ex t288 0 w fun t289 w =>
 Ex t288 1 w fun t290 w =>
 Al P 25 w fun t43 w =>
 Sto P 25 t43 t289 w fun w =>
 Bn P .neq 46 true t290 (.int .i64 0) w fun t292 w =>
 If t292
 (R (.returned (.bool false)) w)
 (Ld P 25 t43 w fun t293 w =>
 Sto P 25 t16 t293 w fun w =>
 Bn P .add 3 true t17 (.int .i64 1) w fun t80 w =>
 k2 t80 w)
def s_law28_AlarmFalse_9 (P : Program) (t40 : Value) (t42 : Value) (t25 : Value) (t28x2 : Value) (t10 : Value) (t16 : Value) (t18 : Value) (t17 : Value) (k9 : Value → Value → World → Prop) (k2 : Value → World → Prop) (w : World) (R : Ending → World → Prop) : Prop :=
 Bt P .len #[33] 3 #[t40] w fun t250 w =>
 Bn P .lss 3 false t42 t250 w fun t251 w =>
 If t251
 (Dv P true (Instr.indexAt 33 t40 t42) w.drew fun t256 =>
 Dv P false (Instr.loadAt 3 t256) w.drew fun t257 =>
 Dv P true (bn .lss 3 true t257 (.int .i64 0)) w.drew fun t258 =>
 GdP t258 false (fun k => k t40) fun t260 =>
 GdP t258 false (fun k => k t42) fun t261 =>
 GdP t258 false (fun k => Dv P true (Instr.indexAt 33 t260 t261) w.drew k) fun t262 =>
 GdP t258 false (fun k => Dv P false (Instr.loadAt 3 t262) w.drew k) fun t263 =>
 GdP t258 false (fun k => Dv P true (Instr.fieldAt 28 t25 1) w.drew k) fun t264 =>
 GdP t258 false (fun k => Dv P false (Instr.loadAt 26 t264) w.drew k) fun t265 =>
 GdP t258 false (fun k => Dv P true (bV .len #[26] 3 #[t265]) w.drew k) fun t266 =>
 GdP t258 false (fun k => Dv P true (bn .geq 3 false t263 t266) w.drew k) fun t267 =>
 PickP t258 (.bool true) t267 fun t268 =>
 If t268
 (R (.returned (.bool false)) w.drew)
 (GdP t28x2 false (fun k => Dv P true (Instr.fieldAt 28 t25 1) w.drew.drew k) fun t271 =>
 GdP t28x2 false (fun k => Dv P false (Instr.loadAt 26 t271) w.drew.drew k) fun t272 =>
 GdP t28x2 false (fun k => k t40) fun t273 =>
 GdP t28x2 false (fun k => k t42) fun t274 =>
 GdP t28x2 false (fun k => Dv P true (Instr.indexAt 33 t273 t274) w.drew.drew k) fun t275 =>
 GdP t28x2 false (fun k => Dv P false (Instr.loadAt 3 t275) w.drew.drew k) fun t276 =>
 GdP t28x2 false (fun k => Dv P true (Instr.indexAt 26 t272 t276) w.drew.drew k) fun t277 =>
 GdP t28x2 false (fun k => Dv P true (Instr.fieldAt 30 t277 3) w.drew.drew k) fun t278 =>
 GdP t28x2 false (fun k => Dv P false (Instr.loadAt 25 t278) w.drew.drew k) fun t279 =>
 GdP t28x2 false (fun k => Dv P false (Instr.loadAt 25 t10) w.drew.drew k) fun t280 =>
 Gd t28x2 false (fun k => Cl P 34 #[t279, t280] w.drew.drew (Pk R) k) w.drew.drew fun t281 w =>
 GdP t28x2 false (fun k => Dv P true (bn .geq 3 true t281 (.int .i64 0)) w k) fun t282 =>
 PickP t28x2 (.bool true) t282 fun t283 =>
 Bn P .add 3 true t42 (.int .i64 1) w fun t253 w =>
 k9 t283 t253 w))
 (If t28x2
 (Ld P 25 t16 w fun t286 w =>
 s_law28_AlarmFalse_10 P t18 t286 t16 t17 k2 w R)
 (Bn P .add 3 true t17 (.int .i64 1) w fun t80x1 w =>
 k2 t80x1 w))
def s_law28_AlarmFalse_8 (P : Program) (t41 : Value) (t28 : Value) (t40 : Value) (t25 : Value) (t10 : Value) (t16 : Value) (t18 : Value) (t17 : Value) (k2 : Value → World → Prop) (w : World) (R : Ending → World → Prop) : Prop :=
 Bn P .neq 46 true t41 (.int .i64 0) w fun t247 w =>
 If t247
 (R (.returned (.bool false)) w)
 (Lp2 t28 (.int .i64 0) w (fun t28x2 t42 w k9 =>
 s_law28_AlarmFalse_9 P t40 t42 t25 t28x2 t10 t16 t18 t17 k9 k2 w R))
def s_law28_AlarmFalse_7 (P : Program) (t198 : Value) (t3 : Value) (t29 : Value) (t184 : Value) (t25 : Value) (t130 : Value) (t28x1 : Value) (k5 : Value → Value → Value → Value → World → Prop) (w : World) (R : Ending → World → Prop) : Prop :=
 Al P 39 w fun t35 w =>
 Sto P 39 t35 t198 w fun w =>
 Dv P true (Instr.indexAt 39 t35 (.int .i64 3)) w.drew fun t199 =>
 Dv P false (Instr.loadAt 3 t199) w.drew fun t200 =>
 Dv P true (Instr.indexAt 61 t3 t29) w.drew fun t204 =>
 Dv P true (Instr.fieldAt 68 t204 2) w.drew fun t205 =>
 Dv P false (Instr.loadAt 3 t205) w.drew fun t206 =>
 Cl P 27 #[t206, (.int .i64 6)] w.drew (Pk R) fun t207 w =>
 Ke P (Instr.loadAt 3 t199) t200 w <|
 Dv P true (bn .mul 3 false t184 t207) w fun t208 =>
 Dv P true (bn .add 3 false t200 t208) w fun t209 =>
 Dv P true (Instr.indexAt 39 t35 (.int .i64 3)) w fun t210 =>
 Sto P 3 t210 t209 w fun w =>
 Dv P true (Instr.indexAt 39 t35 (.int .i64 4)) w.drew fun t211 =>
 Dv P false (Instr.loadAt 3 t211) w.drew fun t212 =>
 Dv P true (Instr.indexAt 61 t3 t29) w.drew fun t216 =>
 Dv P true (Instr.fieldAt 68 t216 2) w.drew fun t217 =>
 Dv P false (Instr.loadAt 3 t217) w.drew fun t218 =>
 Cl P 27 #[t218, (.int .i64 5)] w.drew (Pk R) fun t219 w =>
 Ke P (Instr.loadAt 3 t211) t212 w <|
 Dv P true (bn .mul 3 false t184 t219) w fun t220 =>
 Dv P true (bn .add 3 false t212 t220) w fun t221 =>
 Dv P true (Instr.indexAt 39 t35 (.int .i64 4)) w fun t222 =>
 Sto P 3 t222 t221 w fun w =>
 Ld P 39 t35 w fun t223 w =>
 Cl P 21 #[t223] w (Pk R) fun t224 w =>
 Al P 30 w fun t36 w =>
 Sto P 30 t36 t224 w fun w =>
 Fa P 30 t36 0 w fun t225 w =>
 Sto P 3 t225 (.int .i64 1) w fun w =>
 Fa P 30 t36 1 w fun t226 w =>
 Sto P 3 t226 (.int .i64 2) w fun w =>
 Fa P 30 t36 2 w fun t227 w =>
 Sto P 3 t227 (.int .i64 50) w fun w =>
 Ld P 28 t25 w fun t229 w =>
 Ld P 30 t36 w fun t230 w =>
 Cl P 22 #[t229, t230] w (Pk R) fun t231 w =>
 Ex t231 0 w fun t232 w =>
 Ex t231 1 w fun t233 w =>
 Al P 28 w fun t37 w =>
 Sto P 28 t37 t232 w fun w =>
 Bn P .neq 46 true t233 (.int .i64 0) w fun t235 w =>
 If t235
 (Bn P .add 3 true t29 (.int .i64 1) w fun t120x1 w =>
 k5 t130 t184 t28x1 t120x1 w)
 (Ld P 28 t37 w fun t236 w =>
 Sto P 28 t25 t236 w fun w =>
 Bn P .add 3 true t29 (.int .i64 1) w fun t120x2 w =>
 k5 t130 t184 t28x1 t120x2 w)
def s_law28_AlarmFalse_6 (P : Program) (t27 : Value) (t183 : Value) (t3 : Value) (t29 : Value) (t130 : Value) (t28x1 : Value) (t25 : Value) (k5 : Value → Value → Value → Value → World → Prop) (w : World) (R : Ending → World → Prop) : Prop :=
 Bn P .add 3 false t27 t183 w fun t184 w =>
 Ia P 61 t3 t29 w fun t187 w =>
 Fa P 68 t187 3 w fun t188 w =>
 Ld P 4 t188 w fun t189 w =>
 Gd t189 true (fun k => k t184 w) w fun t191 w =>
 Gd t189 true (fun k => Bn P .gtr 3 true t191 (.int .i64 0) w k) w fun t192 w =>
 Pick t189 t192 (.bool false) w fun t193 w =>
 If t193
 (Bn P .add 3 true t29 (.int .i64 1) w fun t120 w =>
 k5 t130 t184 t28x1 t120 w)
 (Ia P 61 t3 t29 w fun t196 w =>
 Fa P 68 t196 1 w fun t197 w =>
 Ld P 39 t197 w fun t198 w =>
 s_law28_AlarmFalse_7 P t198 t3 t29 t184 t25 t130 t28x1 k5 w R)
def s_law28_AlarmFalse_5 (P : Program) (t32 : Value) (t34 : Value) (t25 : Value) (t28x1 : Value) (t10 : Value) (t27 : Value) (t3 : Value) (t29 : Value) (t130 : Value) (k7 : Value → Value → World → Prop) (k5 : Value → Value → Value → Value → World → Prop) (w : World) (R : Ending → World → Prop) : Prop :=
 Bt P .len #[33] 3 #[t32] w fun t147 w =>
 Bn P .lss 3 false t34 t147 w fun t148 w =>
 If t148
 (Dv P true (Instr.indexAt 33 t32 t34) w.drew fun t153 =>
 Dv P false (Instr.loadAt 3 t153) w.drew fun t154 =>
 Dv P true (bn .lss 3 true t154 (.int .i64 0)) w.drew fun t155 =>
 GdP t155 false (fun k => k t32) fun t157 =>
 GdP t155 false (fun k => k t34) fun t158 =>
 GdP t155 false (fun k => Dv P true (Instr.indexAt 33 t157 t158) w.drew k) fun t159 =>
 GdP t155 false (fun k => Dv P false (Instr.loadAt 3 t159) w.drew k) fun t160 =>
 GdP t155 false (fun k => Dv P true (Instr.fieldAt 28 t25 1) w.drew k) fun t161 =>
 GdP t155 false (fun k => Dv P false (Instr.loadAt 26 t161) w.drew k) fun t162 =>
 GdP t155 false (fun k => Dv P true (bV .len #[26] 3 #[t162]) w.drew k) fun t163 =>
 GdP t155 false (fun k => Dv P true (bn .geq 3 false t160 t163) w.drew k) fun t164 =>
 PickP t155 (.bool true) t164 fun t165 =>
 If t165
 (R (.returned (.bool false)) w.drew)
 (GdP t28x1 false (fun k => Dv P true (Instr.fieldAt 28 t25 1) w.drew.drew k) fun t168 =>
 GdP t28x1 false (fun k => Dv P false (Instr.loadAt 26 t168) w.drew.drew k) fun t169 =>
 GdP t28x1 false (fun k => k t32) fun t170 =>
 GdP t28x1 false (fun k => k t34) fun t171 =>
 GdP t28x1 false (fun k => Dv P true (Instr.indexAt 33 t170 t171) w.drew.drew k) fun t172 =>
 GdP t28x1 false (fun k => Dv P false (Instr.loadAt 3 t172) w.drew.drew k) fun t173 =>
 GdP t28x1 false (fun k => Dv P true (Instr.indexAt 26 t169 t173) w.drew.drew k) fun t174 =>
 GdP t28x1 false (fun k => Dv P true (Instr.fieldAt 30 t174 3) w.drew.drew k) fun t175 =>
 GdP t28x1 false (fun k => Dv P false (Instr.loadAt 25 t175) w.drew.drew k) fun t176 =>
 GdP t28x1 false (fun k => Dv P false (Instr.loadAt 25 t10) w.drew.drew k) fun t177 =>
 Gd t28x1 false (fun k => Cl P 34 #[t176, t177] w.drew.drew (Pk R) k) w.drew.drew fun t178 w =>
 GdP t28x1 false (fun k => Dv P true (bn .geq 3 true t178 (.int .i64 0)) w k) fun t179 =>
 PickP t28x1 (.bool true) t179 fun t180 =>
 Bn P .add 3 true t34 (.int .i64 1) w fun t150 w =>
 k7 t180 t150 w))
 (Bt P .len #[33] 3 #[t32] w fun t183 w =>
 s_law28_AlarmFalse_6 P t27 t183 t3 t29 t130 t28x1 t25 k5 w R)
def s_law28_AlarmFalse_4 (P : Program) (t33 : Value) (t31x2 : Value) (t25 : Value) (t28 : Value) (t32 : Value) (t10 : Value) (t27 : Value) (t3 : Value) (t29 : Value) (t130 : Value) (k5 : Value → Value → Value → Value → World → Prop) (w : World) (R : Ending → World → Prop) : Prop :=
 Bn P .neq 46 true t33 (.int .i64 0) w fun t142 w =>
 If t142
 (R (.returned (.bool false)) w)
 (Ld P 28 t31x2 w fun t143 w =>
 Sto P 28 t25 t143 w fun w =>
 Lp2 t28 (.int .i64 0) w (fun t28x1 t34 w k7 =>
 s_law28_AlarmFalse_5 P t32 t34 t25 t28x1 t10 t27 t3 t29 t130 k7 k5 w R))
def s_law28_AlarmFalse_3 (P : Program) (t3 : Value) (t29 : Value) (t26 : Value) (t48 : Value) (t25 : Value) (t19 : Value) (t28 : Value) (t10 : Value) (t27 : Value) (t16 : Value) (t18 : Value) (t17 : Value) (k5 : Value → Value → Value → Value → World → Prop) (k2 : Value → World → Prop) (w : World) (R : Ending → World → Prop) : Prop :=
 Bt P .len #[61] 3 #[t3] w fun t113 w =>
 Bn P .lss 3 false t29 t113 w fun t114 w =>
 Gd t114 true (fun k => k t29 w) w fun t116 w =>
 Gd t114 true (fun k => Bn P .lss 3 true t116 (.int .i64 5) w k) w fun t117 w =>
 Pick t114 t117 (.bool false) w fun t118 w =>
 If t118
 (Ia P 61 t3 t29 w fun t125 w =>
 Fa P 68 t125 0 w fun t126 w =>
 Ld P 3 t126 w fun t127 w =>
 Cl P 27 #[t127, (.int .i64 4)] w (Pk R) fun t128 w =>
 Bn P .add 3 false t26 t128 w fun t129 w =>
 Bt P .min #[3, 3] 3 #[t48, t129] w fun t130 w =>
 Jn3 (fun k6 =>
 Dv P false (Instr.loadAt 28 t25) w.drew fun t132 =>
 Dv P true (Instr.sliceAt 31 t19 (some t26) (some t130) none) w.drew fun t136 =>
 (Cl P 24 #[t132, t136] w.drew (Pk R) fun t137 w =>
 ExP t137 0 fun t138 =>
 ExP t137 1 fun t139 =>
 ExP t137 2 fun t140 =>
 Al P 28 w fun t31 w =>
 Ke P (Instr.loadAt 28 t25) t132 w <|
 Sto P 28 t31 t138 w fun w =>
 k6 t31 t139 t140 w) ∧
 (Al P 28 w.drew fun t31x1 w =>
 Ke P (Instr.loadAt 28 t25) t132 w <|
 Cl P 24 #[t132, t136] w (Pk R) fun t137x1 w =>
 ExP t137x1 0 fun t138x1 =>
 ExP t137x1 1 fun t139x1 =>
 ExP t137x1 2 fun t140x1 =>
 Sto P 28 t31x1 t138x1 w fun w =>
 k6 t31x1 t139x1 t140x1 w))
 (fun t31x2 t32 t33 w =>
 s_law28_AlarmFalse_4 P t33 t31x2 t25 t28 t32 t10 t27 t3 t29 t130 k5 w R))
 (Jn2 (fun k8 =>
 Dv P false (Instr.loadAt 28 t25) w.drew fun t238 =>
 Dv P true (Instr.sliceAt 31 t19 (some t26) none none) w.drew fun t241 =>
 (Cl P 24 #[t238, t241] w.drew (Pk R) fun t242 w =>
 ExP t242 0 fun t243 =>
 ExP t242 1 fun t244 =>
 ExP t242 2 fun t245 =>
 Al P 28 w fun t39 w =>
 Ke P (Instr.loadAt 28 t25) t238 w <|
 Sto P 28 t39 t243 w fun w =>
 k8 t244 t245 w) ∧
 (Al P 28 w.drew fun t39x1 w =>
 Ke P (Instr.loadAt 28 t25) t238 w <|
 Cl P 24 #[t238, t241] w (Pk R) fun t242x1 w =>
 ExP t242x1 0 fun t243x1 =>
 ExP t242x1 1 fun t244x1 =>
 ExP t242x1 2 fun t245x1 =>
 Sto P 28 t39x1 t243x1 w fun w =>
 k8 t244x1 t245x1 w))
 (fun t40 t41 w =>
 s_law28_AlarmFalse_8 P t41 t28 t40 t25 t10 t16 t18 t17 k2 w R))
def s_law28_AlarmFalse_2 (P : Program) (t110 : Value) (t3 : Value) (t48 : Value) (t19 : Value) (t10 : Value) (t16 : Value) (t18 : Value) (t17 : Value) (k2 : Value → World → Prop) (w : World) (R : Ending → World → Prop) : Prop :=
 Al P 28 w fun t25 w =>
 Sto P 28 t25 t110 w fun w =>
 Lp4 (.int .i64 0) (.int .i64 0) (.bool false) (.int .i64 0) w (fun t26 t27 t28 t29 w k5 =>
 s_law28_AlarmFalse_3 P t3 t29 t26 t48 t25 t19 t28 t10 t27 t16 t18 t17 k5 k2 w R)
def s_law28_AlarmFalse_1 (P : Program) (t48 : Value) (t17 : Value) (t11x3 : Value) (t10 : Value) (t14 : Value) (t3 : Value) (t16 : Value) (t13 : Value) (k2 : Value → World → Prop) (w : World) (R : Ending → World → Prop) : Prop :=
 Bn P .shl 3 true (.int .i64 1) t48 w fun t77 w =>
 Bn P .lss 3 false t17 t77 w fun t78 w =>
 If t78
 (Cl P 30 #[(.int .i64 1), (.int .i64 1)] w (Pk R) fun t81 w =>
 Al P 25 w fun t18 w =>
 Sto P 25 t18 t81 w fun w =>
 Lp2 (.slice none 0 0) (.int .i64 0) w (fun t19 t20 w k3 =>
 Bn P .lss 3 false t20 t48 w fun t84 w =>
 If t84
 (Ld P 25 t11x3 w fun t87 w =>
 Al P 25 w fun t21 w =>
 Sto P 25 t21 t87 w fun w =>
 Jn1 (fun k4 =>
 Bn P .shr 3 false t17 t20 w fun t90 w =>
 Bn P .rem 3 true t90 (.int .i64 2) w fun t91 w =>
 Bn P .eql 3 true t91 (.int .i64 1) w fun t92 w =>
 If t92
 (Ld P 25 t10 w fun t93 w =>
 Sto P 25 t21 t93 w fun w =>
 k4 (.int .i64 100) w)
 (k4 (.int .i64 0) w))
 (fun t22 w =>
 Ld P 25 t18 w fun t95 w =>
 Ld P 25 t21 w fun t96 w =>
 Cl P 32 #[t95, t96] w (Pk R) fun t97 w =>
 Ex t97 0 w fun t98 w =>
 Ex t97 1 w fun t99 w =>
 Al P 25 w fun t23 w =>
 Sto P 25 t23 t98 w fun w =>
 Bn P .neq 46 true t99 (.int .i64 0) w fun t101 w =>
 If t101
 (R (.returned (.bool false)) w)
 (Ld P 25 t23 w fun t102 w =>
 Sto P 25 t18 t102 w fun w =>
 Cl P 33 #[t20, t22, t22] w (Pk R) fun t107 w =>
 Bs P 31 1 [(0, t107)] w fun t108 w =>
 Bt P .append #[31, 31] 31 #[t19, t108] w fun t109 w =>
 Bn P .add 3 true t20 (.int .i64 1) w fun t86 w =>
 k3 t109 t86 w)))
 (Ld P 28 t14 w fun t110 w =>
 s_law28_AlarmFalse_2 P t110 t3 t48 t19 t10 t16 t18 t17 k2 w R)))
 (Ld P 25 t16 w fun t294 w =>
 s_law28_AlarmFalse_11 P t13 t294 w R)
def s_law28_AlarmFalse_0 (P : Program) (t0 : Value) (t1 : Value) (t2 : Value) (t3 : Value) (w : World) (R : Ending → World → Prop) : Prop :=
 Cl P 9 #[] w (Pk R) fun t45 w =>
 Un P .not t45 w fun t46 w =>
 If t46
 (R (.returned (.bool false)) w)
 (Cl P 27 #[t2, (.int .i64 8)] w (Pk R) fun t48 w =>
 Cl P 27 #[t1, (.int .i64 4)] w (Pk R) fun t50 w =>
 Bn P .add 3 true (.int .i64 2) t50 w fun t51 w =>
 Cl P 30 #[(.int .i64 1), t51] w (Pk R) fun t52 w =>
 Al P 25 w fun t10 w =>
 Sto P 25 t10 t52 w fun w =>
 Jn2 (fun k1 =>
 Dv P false (Instr.loadAt 25 t10) w.drew fun t55 =>
 (Cl P 30 #[(.int .i64 1), (.int .i64 1)] w.drew (Pk R) fun t54 w =>
 Ke P (Instr.loadAt 25 t10) t55 w <|
 (Cl P 31 #[t54, t55] w (Pk R) fun t56 w =>
 ExP t56 0 fun t57 =>
 ExP t56 1 fun t58 =>
 Al P 25 w fun t11 w =>
 Ke P (Instr.loadAt 25 t10) t55 w <|
 Sto P 25 t11 t57 w fun w =>
 k1 t11 t58 w) ∧
 (Al P 25 w fun t11x1 w =>
 Ke P (Instr.loadAt 25 t10) t55 w <|
 Cl P 31 #[t54, t55] w (Pk R) fun t56x1 w =>
 ExP t56x1 0 fun t57x1 =>
 ExP t56x1 1 fun t58x1 =>
 Sto P 25 t11x1 t57x1 w fun w =>
 k1 t11x1 t58x1 w)) ∧
 (Al P 25 w.drew fun t11x2 w =>
 Ke P (Instr.loadAt 25 t10) t55 w <|
 Cl P 30 #[(.int .i64 1), (.int .i64 1)] w (Pk R) fun t54x1 w =>
 Ke P (Instr.loadAt 25 t10) t55 w <|
 Cl P 31 #[t54x1, t55] w (Pk R) fun t56x2 w =>
 ExP t56x2 0 fun t57x2 =>
 ExP t56x2 1 fun t58x2 =>
 Sto P 25 t11x2 t57x2 w fun w =>
 k1 t11x2 t58x2 w))
 (fun t11x3 t12 w =>
 Cl P 27 #[t0, (.int .i64 20)] w (Pk R) fun t60 w =>
 Bn P .add 3 true (.int .i64 1) t60 w fun t61 w =>
 Cl P 30 #[t61, (.int .i64 20)] w (Pk R) fun t62 w =>
 Al P 25 w fun t13 w =>
 Sto P 25 t13 t62 w fun w =>
 Ld P 25 t13 w fun t64 w =>
 Cl P 17 #[t64] w (Pk R) fun t65 w =>
 Ex t65 0 w fun t66 w =>
 Ex t65 1 w fun t67 w =>
 Al P 28 w fun t14 w =>
 Sto P 28 t14 t66 w fun w =>
 Bn P .neq 46 true t12 (.int .i64 0) w fun t69 w =>
 Gd t69 false (fun k => k t67 w) w fun t71 w =>
 Gd t69 false (fun k => Bn P .neq 46 true t71 (.int .i64 0) w k) w fun t72 w =>
 Pick t69 (.bool true) t72 w fun t73 w =>
 If t73
 (R (.returned (.bool false)) w)
 (Cl P 30 #[(.int .i64 0), (.int .i64 1)] w (Pk R) fun t74 w =>
 Al P 25 w fun t16 w =>
 Sto P 25 t16 t74 w fun w =>
 Lp1 (.int .i64 0) w (fun t17 w k2 =>
 s_law28_AlarmFalse_1 P t48 t17 t11x3 t10 t14 t3 t16 t13 k2 w R))))
theorem u_law28_AlarmFalse {t0 t1 t2 t3 : Value} {w : World} {R : Ending → World → Prop} (h : s_law28_AlarmFalse_0 Tryz.prog t0 t1 t2 t3 w R) : s_law28_AlarmFalse Tryz.prog t0 t1 t2 t3 w R := Eq.mp (by kernel_rfl) h
end Go.Proofs.YtnkmbjedcjcccaaGreatDoor
namespace Go.Proofs.YtnkmbjedcjcccaaGreatDoor
open Go Go.Eng Go.Proofs Go.Num Go.RowKit
open Go.Alm (Ft Wt Sm VW VA dn fct obs obs1 rungs obsN fresh sumW fts bad ringAt Mk Ok pot Step RegOk runS Inv)
set_option maxRecDepth 100000
theorem Dv_adW {P : Program} {t : TypeId} {wi c : Bool} {x y : Int} {w : World} {K : Value → Prop} (hk : K (.int .i64 (IntKind.i64.wrap (x + y)))) : Dv P wi (bn .add t c (.int .i64 x) (.int .i64 y)) w K := by cases wi <;> ((try simp -dsimp [go_sem]); repeat (simp -dsimp (disch := omega) only [gL, gI]; try simp -dsimp [go_sem])) <;> exact hk
def wrp (x : Int) : Int := IntKind.i64.wrap x
theorem wrp_bd (x : Int) : I64 (wrp x) := by
 unfold wrp
 rw [IntKind.wrap_i64]
 constructor <;> omega
structure Cc where
 more : Int
 x : I6
 shift : Int
 skip : Bool
structure Cck (p : Cc) : Prop where
 more : I64 p.more
 x : ∀ i, I64 (p.x i)
 shift : I64 p.shift
abbrev fCh (p : Cc) : List Value := [.int .i64 p.more, .int .i64 (p.x 0), .int .i64 (p.x 1), .int .i64 (p.x 2), .int .i64 (p.x 3), .int .i64 (p.x 4), .int .i64 (p.x 5), .int .i64 p.shift, .bool p.skip]
def shX (p : Cc) (sn : Nat) : I6 := fun i => if i = 3 then wrp (p.x 3 + sn * pickZ p.shift 6) else if i = 4 then wrp (p.x 4 + sn * pickZ p.shift 5) else p.x i
theorem shX_k {p : Cc} (h : Cck p) (sn : Nat) : ∀ i, I64 (shX p sn i) := fun i => by
 unfold shX
 split
 ·exact wrp_bd _
 ·split
  ·exact wrp_bd _
  ·exact h.x i
def mkWc (x : I6) : Wt := { mkW x with op := 1, ve := 2, lim := 50 }
theorem mkWc_reg (x : I6) : Reg (mkWc x) := by
 have h := mkW_reg x
 exact ⟨by show (0 : Int) ≤ 1 ∧ (1 : Int) ≤ 11; decide, by show (0 : Int) ≤ 2 ∧ (2 : Int) ≤ 9; decide, by show (0 : Int) ≤ 50 ∧ (50 : Int) ≤ 4398046511104; decide, h.st, h.mu, h.al, h.bet, h.mu0, h.mu1, h.al0, h.bm⟩
noncomputable def regF (B : Rat) (p : Cc) (sn : Nat) (ws : List Wt) : List Wt := if p.skip && decide (0 < sn) then ws else reg1 B ws (mkWc (shX p sn))
noncomputable def stepF (B : Rat) (p : Cc) : Step := ((pickZ p.more 4).toNat, regF B p)
def mkb (i : Nat) (b : Bool) : Ft := ftL i (if b then 100 else 0) (if b then 100 else 0)
theorem mkb_Mk : Mk mkb 50 := ⟨fun _ _ => rfl, fun _ _ => rfl, fun _ _ => rfl, fun _ b => by cases b <;> rfl⟩
theorem regF_ok {m B : Rat} (p : Cc) : RegOk m B mkb (regF B p) := fun sn ws hw hs => by
 unfold regF
 split
 ·exact .inl rfl
 ·unfold reg1
  split
  ·next hc =>
   refine .inr ⟨fresh ws (mkWc (shX p sn)), rfl, mkb_Mk, ?_, ?_, ?_⟩
   ·have h := mkWc_reg (shX p sn)
    exact ⟨h.al.ge, h.bet.ge, h.mu.ge, h.bm, by show (0 : Rat) ≤ 1; decide, by have := h.mu.le; exact_mod_cast this⟩
   ·have h := (mkWc_reg (shX p sn)).al.ge
    show (if m ≤ (mkWc (shX p sn)).mu then (if decide ((mkWc (shX p sn)).al = 1) then 1 else (mkWc (shX p sn)).al * 1) else 0) ≤ (mkWc (shX p sn)).al
    split
    ·by_cases c : (mkWc (shX p sn)).al = 1
     ·rw [decide_eq_true c, if_pos rfl, c]; exact Rat.le_refl
     ·rw [decide_eq_false c, if_neg (by decide), Rat.mul_one]; exact Rat.le_refl
    ·exact h
   ·have e : sumW Alm.al (ws ++ [fresh ws (mkWc (shX p sn))]) = sumW Alm.al ws + (mkWc (shX p sn)).al := by
     rw [sum_app1]; rfl
    rw [e]
    exact hc.2
  ·exact .inl rfl
theorem mkb_VF {i : Nat} (h : i ≤ 999) (b : Bool) : VF (mkb i b) := by
 unfold mkb
 cases b
 ·show VF (ftL i 0 0)
  unfold VF ftL
  dsimp only
  omega
 ·show VF (ftL i 100 100)
  unfold VF ftL
  dsimp only
  omega
theorem fts_VFs {y : List Bool} (h : y.length ≤ 7) : VFs (fts mkb 0 y) := by
 refine pw_VFs (List.pairwise_iff_getElem.2 fun i j hi hj hij => ?_) (by rw [Alm.fts_len]; omega) fun f hf => ?_
 ·have e1 := List.getElem?_eq_getElem hi
  have e2 := List.getElem?_eq_getElem hj
  rw [Alm.fts_get] at e1 e2
  obtain ⟨a, _, h1⟩ := Option.map_eq_some_iff.1 e1
  obtain ⟨c, _, h2⟩ := Option.map_eq_some_iff.1 e2
  rw [← h1, ← h2, mkb_Mk.tr, mkb_Mk.tr]
  omega
 ·obtain ⟨i, hi⟩ := List.getElem?_of_mem hf
  have hl := (List.getElem?_eq_some_iff.1 hi).1
  rw [Alm.fts_len] at hl
  rw [Alm.fts_get] at hi
  obtain ⟨a, _, h1⟩ := Option.map_eq_some_iff.1 hi
  rw [← h1]
  exact mkb_VF (by omega) a
section
variable {w0 : World} {R : Ending → World → Prop} {n : Int} {B m : Rat} {v3 : Value} {pl : List Cc} {vs : List Wt} {p : Cc} {kk g25 t sn : Nat} {fg : Bool} {k5 : Value → Value → Value → Value → World → Prop}
variable (hE : En w0) (hB : VB n B vs) (hn : 0 ≤ n ∧ n ≤ 1000) (s3 : SlC w0 9 v3 pl.length (pl.flatMap fCh)) (hp : pl[kk]? = some p) (hpk : Cck p) (hkk : kk ≤ 5) (hsn : sn ≤ 100)
 (hk : ∀ {W' : World} {a : Option Addr} {b c : Nat}, Hp [] w0 W' [ro tWc 15 (.slice a b c) (regF B p sn vs).length (((regF B p sn vs).map wr).flatMap fW), bx g25 tAl [str (tx B).1, str (tx B).2, .slice a b c]] → k5 (.int .i64 (t : Int)) (.int .i64 (sn : Int)) (.bool fg) (.int .i64 ((kk : Int) + 1)) W')
include hE hB hn s3 hp hpk hkk hsn hk
set_option maxHeartbeats 16000000 in
theorem fa_7 {W : World} {a : Option Addr} {b c : Nat} (hs : ¬ (p.skip = true ∧ 0 < sn)) (h : Hp [] w0 W [ro tWc 15 (.slice a b c) vs.length ((vs.map wr).flatMap fW), bx g25 tAl [str (tx B).1, str (tx B).2, .slice a b c]]) :
 s_law28_AlarmFalse_7 Tryz.prog (vX p.x) v3 (.int .i64 (kk : Int)) (.int .i64 (sn : Int)) (pr g25 0) (.int .i64 (t : Int)) (.bool fg) k5 W R := by
 have hkl := (List.getElem?_eq_some_iff.1 hp).1
 have sp : Seg (pl.flatMap fCh) (kk * 9) (fCh p) := flat_seg (f := fCh) (fun _ => rfl) hp
 have q1 := hpk.shift
 have b6 := pickZ_bd (c := p.shift) (n := 6) (by decide)
 have b5 := pickZ_bd (c := p.shift) (n := 5) (by decide)
 have m6 : 0 ≤ (sn : Int) * pickZ p.shift 6 := Int.mul_nonneg (by omega) b6.1
 have m6' : (sn : Int) * pickZ p.shift 6 ≤ 100 * 6 := Int.mul_le_mul (by omega) (by omega) b6.1 (by omega)
 have m5 : 0 ≤ (sn : Int) * pickZ p.shift 5 := Int.mul_nonneg (by omega) b5.1
 have m5' : (sn : Int) * pickZ p.shift 5 ≤ 100 * 5 := Int.mul_le_mul (by omega) (by omega) b5.1 (by omega)
 have cc1 := fun {W : World} (_ : Ext w0 W) => c_pickL (w := W) (c := p.shift) (n := 6) q1 (by decide)
 have cc2 := fun {W : World} (_ : Ext w0 W) => c_pickL (w := W) (c := p.shift) (n := 5) q1 (by decide)
 have cc3 : ∀ {W : World}, Ext w0 W → Calls Tryz.prog 21 #[.agg #[.int .i64 (p.x 0), .int .i64 (p.x 1), .int .i64 (p.x 2), .int .i64 (IntKind.i64.wrap (p.x 3 + sn * pickZ p.shift 6)), .int .i64 (IntKind.i64.wrap (p.x 4 + sn * pickZ p.shift 5)), .int .i64 (p.x 5)]] W (Ret fun r w' => Ext W w' ∧ r = vC (mkW (shX p sn)).op (mkW (shX p sn)).ve (mkW (shX p sn)).lim (tx (mkW (shX p sn)).mu) (tx (mkW (shX p sn)).al) (tx (mkW (shX p sn)).bet) (mkW (shX p sn)).st 0 0 ([], []) false) := fun {W} _ => c_Watch (w0 := W) (x := shX p sn) (shX_k hpk sn)
 have er : regF B p sn vs = reg1 B vs (mkWc (shX p sn)) := by
  unfold regF
  rw [if_neg]
  simpa using hs
 rw [er] at hk
 have hreg := mkWc_reg (shX p sn)
 have cc4 : ∀ {W : World}, Ext w0 W → SlC W 15 (.slice a b c) vs.length ((vs.map wr).flatMap fW) → ¬ Can B vs (mkWc (shX p sn)) → Calls Tryz.prog 22 #[vA (tx B) (.slice a b c), vW (rw0 (mkWc (shX p sn)))] W (Ret fun r w' => Ext W w' ∧ r = .tuple #[vA ([], []) (.slice none 0 0), .int .i64 280]) := fun {W} e hv hc => c_RegF (w0 := W) hB (by omega) hv hreg (hE.ext e) hc
 have cc5 : ∀ {W : World}, Ext w0 W → SlC W 15 (.slice a b c) vs.length ((vs.map wr).flatMap fW) → Can B vs (mkWc (shX p sn)) → Calls Tryz.prog 22 #[vA (tx B) (.slice a b c), vW (rw0 (mkWc (shX p sn)))] W (Ret fun o w' => ∃ a b c, o = .tuple #[vA (tx B) (.slice a b c), .int .i64 0] ∧ Hp [] W w' [ro tWc 15 (.slice a b c) (vs ++ [fresh vs (mkWc (shX p sn))]).length (((vs ++ [fresh vs (mkWc (shX p sn))]).map wr).flatMap fW)]) := fun {W} e hv hc => c_RegK (w0 := W) hB (by omega) hv hreg (hE.ext e) hc
 have ez : mkWc (shX p sn) = { mkW (shX p sn) with op := 1, ve := 2, lim := 50 } := rfl
 obtain ⟨z, hz⟩ : ∃ z, mkW (shX p sn) = z := ⟨_, rfl⟩
 obtain ⟨u, hu⟩ : ∃ u, mkWc (shX p sn) = u := ⟨_, rfl⟩
 rw [hz] at cc3 ez
 rw [hu] at cc4 cc5 hk ez
 clear hz hu hreg er
 by_cases hc : Can B vs u
 ·have er : reg1 B vs u = vs ++ [fresh vs u] := by unfold reg1; rw [if_pos hc]
  rw [er] at hk
  have cc5 := fun {W : World} (e : Ext w0 W) (hv : SlC W 15 (.slice a b c) vs.length ((vs.map wr).flatMap fW)) => cc5 e hv hc
  rw [ez] at cc5
  clear cc4 er
  unfold s_law28_AlarmFalse_7 vX
  refine alS h fun g1 w h => ?_
  refine stA h 0 rfl rfl rfl rfl fun w h => ?_
  replace h := h.dr
  refine diZ (by decide) (by decide) ?_
  refine dl1 h 0 rfl rfl (diH h ‹_› (by omega) fun zb zo zk zv zc => ?_)
  refine dfS (dh1 h ‹_› ‹_› (by rfl) ?_)
  refine cl1 h n_law28_pick (cc1 h.ext) fun w h => ?_
  refine kl1 h 0 rfl rfl (Dv_mu (by omega) (by omega) ?_)
  dsimp only [List.set] at h
  refine Dv_adW (diZ (by decide) (by decide) ?_)
  refine st1 h 0 rfl rfl rfl rfl fun w h => ?_
  replace h := h.dr
  refine diZ (by decide) (by decide) ?_
  refine dl1 h 0 rfl rfl (diH h ‹_› (by omega) fun zb zo zk zv zc => ?_)
  refine dfS (dh1 h ‹_› ‹_› (by rfl) ?_)
  refine cl1 h n_law28_pick (cc2 h.ext) fun w h => ?_
  refine kl1 h 0 rfl rfl (Dv_mu (by omega) (by omega) ?_)
  dsimp only [List.set] at h
  refine Dv_adW (diZ (by decide) (by decide) ?_)
  refine st1 h 0 rfl rfl rfl rfl fun w h => ?_
  refine ldA h 0 rfl rfl ?_
  refine cl1 h n_ref28_Watch (cc3 h.ext) fun w h => ?_
  refine alS h fun g2 w h => ?_
  refine stA h 0 rfl rfl rfl rfl fun w h => ?_
  refine faS (st1 h 0 rfl rfl rfl rfl fun w h => ?_)
  refine faS (st1 h 0 rfl rfl rfl rfl fun w h => ?_)
  dsimp only [List.set] at h
  refine faS (st1 h 0 rfl rfl rfl rfl fun w h => ?_)
  refine ldA h 3 rfl rfl ?_
  refine ldA h 0 rfl rfl ?_
  dsimp only [List.set] at h
  refine Cl_i n_alarm_Register (cc5 h.ext (qZ 2 h rfl)) ?_
  rintro _ W1 ⟨a', b', c', rfl, h1⟩
  have h := h.cat1 h1 ro_sm
  rw [← ez] at h
  clear h1 cc5
  refine Ex2 (alS h fun g3 w h => ?_)
  refine stA h 0 rfl rfl rfl rfl fun w h => ?_
  refine Bn_neF (by omega) (If_F (ldA h 0 rfl rfl ?_))
  refine stA h 5 rfl rfl rfl rfl fun w h => ?_
  refine Bn_ad (by omega) (by omega) ?_
  dsimp only [List.set] at h
  exact hk (h.pick [1, 5] (by decide) rfl)
 ·have er : reg1 B vs u = vs := by unfold reg1; rw [if_neg hc]
  rw [er] at hk
  have cc4 := fun {W : World} (e : Ext w0 W) (hv : SlC W 15 (.slice a b c) vs.length ((vs.map wr).flatMap fW)) => cc4 e hv hc
  rw [ez] at cc4
  clear cc5 er
  unfold s_law28_AlarmFalse_7 vX
  refine alS h fun g1 w h => ?_
  refine stA h 0 rfl rfl rfl rfl fun w h => ?_
  replace h := h.dr
  refine diZ (by decide) (by decide) ?_
  refine dl1 h 0 rfl rfl (diH h ‹_› (by omega) fun zb zo zk zv zc => ?_)
  refine dfS (dh1 h ‹_› ‹_› (by rfl) ?_)
  refine cl1 h n_law28_pick (cc1 h.ext) fun w h => ?_
  refine kl1 h 0 rfl rfl (Dv_mu (by omega) (by omega) ?_)
  dsimp only [List.set] at h
  refine Dv_adW (diZ (by decide) (by decide) ?_)
  refine st1 h 0 rfl rfl rfl rfl fun w h => ?_
  replace h := h.dr
  refine diZ (by decide) (by decide) ?_
  refine dl1 h 0 rfl rfl (diH h ‹_› (by omega) fun zb zo zk zv zc => ?_)
  refine dfS (dh1 h ‹_› ‹_› (by rfl) ?_)
  refine cl1 h n_law28_pick (cc2 h.ext) fun w h => ?_
  refine kl1 h 0 rfl rfl (Dv_mu (by omega) (by omega) ?_)
  dsimp only [List.set] at h
  refine Dv_adW (diZ (by decide) (by decide) ?_)
  refine st1 h 0 rfl rfl rfl rfl fun w h => ?_
  refine ldA h 0 rfl rfl ?_
  refine cl1 h n_ref28_Watch (cc3 h.ext) fun w h => ?_
  refine alS h fun g2 w h => ?_
  refine stA h 0 rfl rfl rfl rfl fun w h => ?_
  refine faS (st1 h 0 rfl rfl rfl rfl fun w h => ?_)
  refine faS (st1 h 0 rfl rfl rfl rfl fun w h => ?_)
  dsimp only [List.set] at h
  refine faS (st1 h 0 rfl rfl rfl rfl fun w h => ?_)
  refine ldA h 3 rfl rfl ?_
  refine ldA h 0 rfl rfl ?_
  refine cl1 h n_alarm_Register (cc4 h.ext (by first | exact (qZ 2 h rfl) | assumption)) fun w h => ?_
  refine Ex2 (alS h fun g3 w h => ?_)
  refine stA h 0 rfl rfl rfl rfl fun w h => ?_
  refine Bn_neT (by omega) (If_T (Bn_ad (by omega) (by omega) ?_))
  dsimp only [List.set] at h
  exact hk (h.pick [3, 4] (by decide) rfl)
theorem fa_6 {W : World} {s0 l : Nat} {a : Option Addr} {b c : Nat} (hsum : s0 + l = sn) (h : Hp [] w0 W [ro tWc 15 (.slice a b c) vs.length ((vs.map wr).flatMap fW), bx g25 tAl [str (tx B).1, str (tx B).2, .slice a b c]]) :
 s_law28_AlarmFalse_6 Tryz.prog (.int .i64 (s0 : Int)) (.int .i64 (l : Int)) v3 (.int .i64 (kk : Int)) (.int .i64 (t : Int)) (.bool fg) (pr g25 0) k5 W R := by
 have hkl := (List.getElem?_eq_some_iff.1 hp).1
 have e : ((s0 : Int) + l) = ((sn : Nat) : Int) := by omega
 have hF := fun {W : World} (hs : ¬ (p.skip = true ∧ 0 < sn)) (h : Hp [] w0 W [ro tWc 15 (.slice a b c) vs.length ((vs.map wr).flatMap fW), bx g25 tAl [str (tx B).1, str (tx B).2, .slice a b c]]) => fa_7 (R := R) hE hB hn s3 hp hpk hkk hsn hk hs h
 have mk : ∀ x, p.skip = x → fCh p = [.int .i64 p.more, .int .i64 (p.x 0), .int .i64 (p.x 1), .int .i64 (p.x 2), .int .i64 (p.x 3), .int .i64 (p.x 4), .int .i64 (p.x 5), .int .i64 p.shift, .bool x] := fun x hx => by rw [← hx]
 have sp : Seg (pl.flatMap fCh) (kk * 9) (fCh p) := flat_seg (f := fCh) (fun _ => rfl) hp
 rcases Bool.eq_false_or_eq_true p.skip with hs | hs
 ·rw [mk _ hs] at sp
  by_cases h0 : 0 < sn
  ·have er : regF B p sn vs = vs := by
    unfold regF
    rw [if_pos (by rw [hs, decide_eq_true h0]; rfl)]
   rw [er] at hk
   clear hF mk er
   unfold s_law28_AlarmFalse_6
   refine Bn_ad (by omega) (by omega) ?_
   rw [e]
   refine iaH h ‹_› (by omega) fun zb zo zk zv zc => ?_
   refine faS (lh1 h ‹_› ‹_› (by rfl) ?_)
   refine Gd_T (Gd_T (Bn_gtT (by omega) (Pick_T (If_T (Bn_ad (by omega) (by omega) ?_)))))
   exact hk h
  ·have hF := @hF
   clear hk mk
   unfold s_law28_AlarmFalse_6
   refine Bn_ad (by omega) (by omega) ?_
   rw [e]
   refine iaH h ‹_› (by omega) fun zb zo zk zv zc => ?_
   refine faS (lh1 h ‹_› ‹_› (by rfl) ?_)
   refine Gd_T (Gd_T (Bn_gtF (by omega) (Pick_T (If_F (iaH h ‹_› (by omega) fun zb zo zk zv zc => ?_)))))
   refine faS (lhP h ‹_› ‹_› (by rfl) ?_)
   exact hF (fun hc => h0 hc.2) h
 ·rw [mk _ hs] at sp
  clear hk mk
  unfold s_law28_AlarmFalse_6
  refine Bn_ad (by omega) (by omega) ?_
  rw [e]
  refine iaH h ‹_› (by omega) fun zb zo zk zv zc => ?_
  refine faS (lh1 h ‹_› ‹_› (by rfl) ?_)
  refine Gd_FT (Gd_FT (Pick_F (If_F (iaH h ‹_› (by omega) fun zb zo zk zv zc => ?_))))
  refine faS (lhP h ‹_› ‹_› (by rfl) ?_)
  exact hF (fun hc => by rw [hs] at hc; cases hc.1) h
end
theorem meetF {T G Q : World → Prop} (h1 : ∀ w, (∀ w', Q w' → T w') → Q w → G w) (h2 : ∀ w, Q w → T w) : ∀ w, Q w → G w := fun w hq => h1 w h2 hq
theorem any_snoc {l : List Nat} {j i : Nat} (f : Nat → Bool) (h : l[j]? = some i) : (l.take (j + 1)).any f = ((l.take j).any f || f i) := by
 rw [List.take_add_one, h, List.any_append]
 show (_ || (f i || false)) = _
 rw [Bool.or_false]
theorem ringAt_some {m : Rat} {vs : List Wt} {i : Nat} {v : Wt} (h : vs[i]? = some v) : ringAt m vs i = decide (m ≤ v.mu) := by
 unfold Alm.ringAt; rw [h]
theorem ringAt_obs {m : Rat} {ws : List Wt} {l : List Ft} (i : Nat) : ringAt m (obs ws l) i = ringAt m ws i := by
 unfold Alm.ringAt Alm.obs
 rw [List.getElem?_map]
 cases ws[i]? with
 | none => rfl
 | some w => show decide (m ≤ (obs1 w.th w l).mu) = _; rw [(Alm.obs1_fix w w.th l).2.1]
section
variable {w0 : World} {R : Ending → World → Prop} {n : Int} {B m : Rat} {v3 : Value} {vs : List Wt} {kk g10 g25 t s0 j : Nat} {fg : Bool} {k5 : Value → Value → Value → Value → World → Prop} {k7 : Value → Value → World → Prop} {rg : List Nat}
 {a : Option Addr} {b c : Nat} {a' : Option Addr} {b' c' : Nat}
variable (hE : En w0) (hB : VB n B vs) (hm : RB m) (b10 : Blk w0 g10 tR (fR (tx m))) (hrl : rg.length ≤ 12) (hri : ∀ i ∈ rg, i < vs.length) (hj : j ≤ rg.length)
include hE hB hm b10 hrl hri hj
set_option maxHeartbeats 16000000 in
theorem fa_5 {W : World} (hk7 : ∀ i, rg[j]? = some i → ∀ {W' : World}, Hp [] w0 W' [ro tWc 15 (.slice a b c) vs.length ((vs.map wr).flatMap fW), ro 3 1 (.slice a' b' c') rg.length (rg.flatMap fN), bx g25 tAl [str (tx B).1, str (tx B).2, .slice a b c]] → k7 (.bool (fg || ringAt m vs i)) (.int .i64 ((j : Int) + 1)) W')
 (hend : j = rg.length → ∀ {W' : World}, Hp [] w0 W' [ro tWc 15 (.slice a b c) vs.length ((vs.map wr).flatMap fW), bx g25 tAl [str (tx B).1, str (tx B).2, .slice a b c]] → s_law28_AlarmFalse_6 Tryz.prog (.int .i64 (s0 : Int)) (.int .i64 (rg.length : Nat)) v3 (.int .i64 (kk : Int)) (.int .i64 (t : Int)) (.bool fg) (pr g25 0) k5 W' R)
 (h : Hp [] w0 W [ro tWc 15 (.slice a b c) vs.length ((vs.map wr).flatMap fW), ro 3 1 (.slice a' b' c') rg.length (rg.flatMap fN), bx g25 tAl [str (tx B).1, str (tx B).2, .slice a b c]]) :
 s_law28_AlarmFalse_5 Tryz.prog (.slice a' b' c') (.int .i64 (j : Int)) (pr g25 0) (.bool fg) (pr g10 0) (.int .i64 (s0 : Int)) v3 (.int .i64 (kk : Int)) (.int .i64 (t : Int)) k7 k5 W R := by
 have hlen := hB.len
 by_cases hjl : j < rg.length
 rotate_left
 ·have hend := @hend (by omega)
  clear hk7
  unfold s_law28_AlarmFalse_5
  refine leS (qZ 1 h rfl) ?_
  refine Bn_ltF (by omega) (If_F (leS (qZ 1 h rfl) ?_))
  exact hend (h.pick [0, 2] (by decide) rfl)
 clear hend
 refine Exists.elim (p := fun x => rg[j]? = some x) ⟨_, List.getElem?_eq_getElem hjl⟩ fun i hi => ?_
 have hiv := hri i (List.mem_of_getElem? hi)
 refine Exists.elim (p := fun x => vs[i]? = some x) ⟨_, List.getElem?_eq_getElem hiv⟩ fun v hv => ?_
 have si : Seg (rg.flatMap fN) (j * 1) (fN i) := flat_seg (f := fN) (fun _ => rfl) hi
 have sv : Seg ((vs.map wr).flatMap fW) (i * 15) (cT v) := flat_seg (f := fW) (fun _ => rfl) (l := vs.map wr) (a := wr v) (by rw [List.getElem?_map, hv]; rfl)
 have hk7 := @hk7 i hi
 rw [ringAt_some hv] at hk7
 have vv := hB.ok v (List.mem_of_getElem? hv)
 have cc1 := fun {W : World} (e : Ext w0 W) => k_cmp (w := W) (Sm.rb vv.mu (.inl rfl)) hm (hE.hT.ext e)
 rcases Bool.eq_false_or_eq_true fg with hf | hf
 ·subst hf
  rw [Bool.true_or] at hk7
  clear cc1
  unfold s_law28_AlarmFalse_5
  refine leS (qZ 1 h rfl) ?_
  refine Bn_ltT (by omega) (If_T ?_)
  replace h := h.dr
  refine diR h 1 rfl (by omega) fun zg zk zv => ?_
  refine dr0 h 1 rfl ‹_› si (by rfl) ?_
  refine Dv_ltF (by omega) (GdP_F (GdP_F (GdP_F (diR h 1 rfl (by omega) fun zg zk zv => ?_))))
  refine GdP_F (dr0 h 1 rfl ‹_› si (by rfl) ?_)
  refine GdP_F (dfS (GdP_F (dl1 h 2 rfl rfl (GdP_F (dlS (qZ 0 h rfl) ?_)))))
  refine GdP_F (Dv_geF (by omega) (PickP_F (If_F (GdP_TF (GdP_TF (GdP_TF (GdP_TF (GdP_TF (GdP_TF (GdP_TF (GdP_TF (GdP_TF (GdP_TF ?_)))))))))))))
  replace h := h.dr
  refine Gd_TF (GdP_TF (PickP_T (Bn_ad (by omega) (by omega) ?_)))
  exact hk7 h
 ·subst hf
  rw [Bool.false_or] at hk7
  by_cases hc : m ≤ v.mu
  ·have hcm : 0 ≤ cmpQ v.mu m := (cmp_ge _ _).2 hc
   rw [decide_eq_true hc] at hk7
   unfold s_law28_AlarmFalse_5
   refine leS (qZ 1 h rfl) ?_
   refine Bn_ltT (by omega) (If_T ?_)
   replace h := h.dr
   refine diR h 1 rfl (by omega) fun zg zk zv => ?_
   refine dr0 h 1 rfl ‹_› si (by rfl) ?_
   refine Dv_ltF (by omega) (GdP_F (GdP_F (GdP_F (diR h 1 rfl (by omega) fun zg zk zv => ?_))))
   refine GdP_F (dr0 h 1 rfl ‹_› si (by rfl) ?_)
   refine GdP_F (dfS (GdP_F (dl1 h 2 rfl rfl (GdP_F (dlS (qZ 0 h rfl) ?_)))))
   refine GdP_F (Dv_geF (by omega) (PickP_F (If_F (GdP_F ?_))))
   replace h := h.dr
   refine dfS (GdP_F (dl1 h 2 rfl rfl (GdP_F (GdP_F (GdP_F (diR h 1 rfl (by omega) fun zg zk zv => ?_))))))
   refine GdP_F (dr0 h 1 rfl ‹_› si (by rfl) ?_)
   refine GdP_F (diR h 0 rfl (by omega) fun zg zk zv => ?_)
   refine GdP_F (dfS (GdP_F (drP h 0 rfl ‹_› sv (by rfl) ?_)))
   refine GdP_F (dgA h ‹_› (by rfl) ?_)
   refine Gd_F (cl1 h n_rational_Compare (cc1 h.ext) fun w h => ?_)
   refine GdP_F (Dv_geT (by omega) (PickP_F (Bn_ad (by omega) (by omega) ?_)))
   exact hk7 h
  ·have hcm : ¬ 0 ≤ cmpQ v.mu m := fun h => hc ((cmp_ge _ _).1 h)
   rw [decide_eq_false hc] at hk7
   unfold s_law28_AlarmFalse_5
   refine leS (qZ 1 h rfl) ?_
   refine Bn_ltT (by omega) (If_T ?_)
   replace h := h.dr
   refine diR h 1 rfl (by omega) fun zg zk zv => ?_
   refine dr0 h 1 rfl ‹_› si (by rfl) ?_
   refine Dv_ltF (by omega) (GdP_F (GdP_F (GdP_F (diR h 1 rfl (by omega) fun zg zk zv => ?_))))
   refine GdP_F (dr0 h 1 rfl ‹_› si (by rfl) ?_)
   refine GdP_F (dfS (GdP_F (dl1 h 2 rfl rfl (GdP_F (dlS (qZ 0 h rfl) ?_)))))
   refine GdP_F (Dv_geF (by omega) (PickP_F (If_F (GdP_F ?_))))
   replace h := h.dr
   refine dfS (GdP_F (dl1 h 2 rfl rfl (GdP_F (GdP_F (GdP_F (diR h 1 rfl (by omega) fun zg zk zv => ?_))))))
   refine GdP_F (dr0 h 1 rfl ‹_› si (by rfl) ?_)
   refine GdP_F (diR h 0 rfl (by omega) fun zg zk zv => ?_)
   refine GdP_F (dfS (GdP_F (drP h 0 rfl ‹_› sv (by rfl) ?_)))
   refine GdP_F (dgA h ‹_› (by rfl) ?_)
   refine Gd_F (cl1 h n_rational_Compare (cc1 h.ext) fun w h => ?_)
   refine GdP_F (Dv_geF (by omega) (PickP_F (Bn_ad (by omega) (by omega) ?_)))
   exact hk7 h
omit hj
set_option maxHeartbeats 16000000 in
theorem fa_4 {W : World} {g31 : Nat} {q1 q2 : List UInt8} {q3 : Option Addr} {q4 q5 : Nat} (hB2 : 0 ≤ n ∧ n ≤ 1000) {pl : List Cc} {p : Cc} (s3 : SlC w0 9 v3 pl.length (pl.flatMap fCh)) (hp : pl[kk]? = some p) (hpk : Cck p) (hkk : kk ≤ 5) (hs0 : s0 ≤ 88)
 (hk : ∀ {W' : World} {a : Option Addr} {b c : Nat}, Hp [] w0 W' [ro tWc 15 (.slice a b c) (regF B p (s0 + rg.length) vs).length (((regF B p (s0 + rg.length) vs).map wr).flatMap fW), bx g25 tAl [str (tx B).1, str (tx B).2, .slice a b c]] → k5 (.int .i64 (t : Int)) (.int .i64 ((s0 + rg.length : Nat) : Int)) (.bool (fg || rg.any (ringAt m vs))) (.int .i64 ((kk : Int) + 1)) W')
 (h : Hp [] w0 W [bx g31 tAl [str (tx B).1, str (tx B).2, .slice a b c], ro tWc 15 (.slice a b c) vs.length ((vs.map wr).flatMap fW), ro 3 1 (.slice a' b' c') rg.length (rg.flatMap fN), bx g25 tAl [str q1, str q2, .slice q3 q4 q5]]) :
 s_law28_AlarmFalse_4 Tryz.prog (.int .i64 0) (pr g31 0) (pr g25 0) (.bool fg) (.slice a' b' c') (pr g10 0) (.int .i64 (s0 : Int)) v3 (.int .i64 (kk : Int)) (.int .i64 (t : Int)) k5 W R := by
 unfold s_law28_AlarmFalse_4
 refine Bn_neF (by omega) (If_F (ldA h 0 rfl rfl ?_))
 refine stA h 3 rfl rfl rfl rfl fun w h => ?_
 dsimp only [List.set] at h
 have h := h.pick [1, 2, 3] (by decide) rfl
 refine Lp2.mk (fun p q W' => ∃ j : Nat, j ≤ rg.length ∧ p = .bool (fg || (rg.take j).any (ringAt m vs)) ∧ q = .int .i64 j ∧ Hp [] w0 W' [ro tWc 15 (.slice a b c) vs.length ((vs.map wr).flatMap fW), ro 3 1 (.slice a' b' c') rg.length (rg.flatMap fN), bx g25 tAl [str (tx B).1, str (tx B).2, .slice a b c]])
  (fun _ q _ => match q with | .int _ i' => rg.length - i'.toNat | _ => 0) ⟨0, by omega, by rw [List.take_zero]; show _ = Value.bool (fg || false); rw [Bool.or_false], rfl, h⟩ ?_
 clear h
 rintro _ _ W1 ⟨j, hj, rfl, rfl, h⟩
 refine fa_5 (n := n) hE hB hm b10 hrl hri hj (fun i hi W2 h2 => ?_) (fun hjr W2 h2 => ?_) h
 ·exact ⟨⟨j + 1, by have := (List.getElem?_eq_some_iff.1 hi).1; omega, by rw [any_snoc _ hi, Bool.or_assoc], rfl, h2⟩, by show rg.length - ((j : Int) + 1).toNat < rg.length - (j : Int).toNat; have := (List.getElem?_eq_some_iff.1 hi).1; omega⟩
 ·rw [hjr, List.take_length]
  exact fa_6 (n := n) hE hB hB2 s3 hp hpk hkk (by omega) hk rfl h2
end
section
variable {w0 : World} {R : Ending → World → Prop} {n : Int} {B m : Rat} {v3 fv : Value} {ws : List Wt} {fl : List Ft} {kk g10 g25 t at0 s0 nn g16 g18 : Nat} {kz : Int} {fg : Bool} {k5 : Value → Value → Value → Value → World → Prop} {k2 : Value → World → Prop} {pl : List Cc} {p : Cc}
variable (hE : En w0) (hB : VB n B ws) (hn : 0 ≤ n ∧ n ≤ 900) (hm : RB m) (b10 : Blk w0 g10 tR (fR (tx m))) (sF : SlC w0 10 fv fl.length (fl.flatMap fF)) (hV : VFs fl) (hfn : fl.length = nn) (hnn : nn ≤ 7) (hat : at0 ≤ nn) (hs0 : s0 ≤ 60)
theorem Bt_miE {P : Program} {t t1 t2 : TypeId} {x y z : Int} {w : World} {K : Value → World → Prop} (h : min x y = z) (hk : K (.int .i64 z) w) : Bt P .min #[t1, t2] t #[.int .i64 x, .int .i64 y] w K := by
 subst h; exact Bt_mi hk
include hE hB hn hm b10 sF hV hfn hnn hat hs0
set_option maxHeartbeats 16000000 in
theorem fa_3 {W : World} {a : Option Addr} {b c : Nat} (s3 : SlC w0 9 v3 pl.length (pl.flatMap fCh)) (hp : pl[kk]? = some p) (hpk : Cck p) (hkk : kk < 5) (ht : t = min nn (at0 + (pickZ p.more 4).toNat))
 (hk : ∀ {W' : World} {a : Option Addr} {b c : Nat}, Hp [] w0 W' [ro tWc 15 (.slice a b c) (regF B p (s0 + (rungs ws (obs ws (part fl at0 t)) 0).length) (obs ws (part fl at0 t))).length (((regF B p (s0 + (rungs ws (obs ws (part fl at0 t)) 0).length) (obs ws (part fl at0 t))).map wr).flatMap fW), bx g25 tAl [str (tx B).1, str (tx B).2, .slice a b c]] →
  k5 (.int .i64 (t : Int)) (.int .i64 ((s0 + (rungs ws (obs ws (part fl at0 t)) 0).length : Nat) : Int)) (.bool (fg || bad m ws (obs ws (part fl at0 t)))) (.int .i64 ((kk : Int) + 1)) W')
 (h : Hp [] w0 W [ro tWc 15 (.slice a b c) ws.length ((ws.map wr).flatMap fW), bx g25 tAl [str (tx B).1, str (tx B).2, .slice a b c]]) :
 s_law28_AlarmFalse_3 Tryz.prog v3 (.int .i64 (kk : Int)) (.int .i64 (at0 : Int)) (.int .i64 (nn : Int)) (pr g25 0) fv (.bool fg) (pr g10 0) (.int .i64 (s0 : Int)) (pr g16 0) (pr g18 0) (.int .i64 kz) k5 k2 W R := by
 have hkl := (List.getElem?_eq_some_iff.1 hp).1
 have sp : Seg (pl.flatMap fCh) (kk * 9) (fCh p) := flat_seg (f := fCh) (fun _ => rfl) hp
 have q1 := hpk.more
 have pb := pickZ_bd (c := p.more) (n := 4) (by decide)
 have ht1 : at0 ≤ t := by omega
 have ht2 : t ≤ fl.length := by omega
 have hte : min (nn : Int) ((at0 : Int) + pickZ p.more 4) = ((t : Nat) : Int) := by omega
 have hVt := part_VFs hV at0 t
 have hlt := part_n (fl := fl) ht1 ht2
 have hpf := part_flat fl ht1
 obtain ⟨vs, hvs⟩ : ∃ vs, obs ws (part fl at0 t) = vs := ⟨_, rfl⟩
 have hC : VB (n + 7) B vs := by rw [← hvs]; exact (hB.obs hVt).mono (by omega)
 have hlen : vs.length = ws.length := by rw [← hvs]; exact Alm.obs_len _ _
 have hbad : bad m ws vs = (rungs ws vs 0).any (ringAt m vs) := Alm.bad_any (fun j => by rw [Nat.zero_add]) hlen.symm
 have hrl := Alm.rungs_len ws vs 0
 have hbl := hB.len
 have hri : ∀ i ∈ rungs ws vs 0, i < vs.length := fun i hi => by
  obtain ⟨j, _, v, e, _, h2, _⟩ := Alm.rungs_mem hi
  have := (List.getElem?_eq_some_iff.1 h2).1
  omega
 have ccO : ∀ {W : World} {v1 : Value}, Ext w0 W → SlC W 15 (.slice a b c) ws.length ((ws.map wr).flatMap fW) → Fk W v1 (part fl at0 t) → Calls Tryz.prog 24 #[vA (tx B) (.slice a b c), v1] W
  (Ret fun o w' => ∃ a b c a' b' c', o = .tuple #[vA (tx B) (.slice a b c), .slice a' b' c', .int .i64 0] ∧ Hp [] W w' [ro tWc 15 (.slice a b c) vs.length ((vs.map wr).flatMap fW), ro 3 1 (.slice a' b' c') (rungs ws vs 0).length ((rungs ws vs 0).flatMap fN)]) := fun {W} {v1} e sb hF => by
  have := c_ObsK (w0 := W) hB (by omega) sb (hE.ext e) hF hVt (by omega)
  rw [hvs] at this
  exact this
 have cp := fun {W : World} (_ : Ext w0 W) => c_pickL (w := W) (c := p.more) (n := 4) q1 (by decide)
 rw [hvs, hbad] at hk
 obtain ⟨rg, hrg⟩ : ∃ rg, rungs ws vs 0 = rg := ⟨_, rfl⟩
 rw [hrg] at hk hrl hri ccO
 clear hbad hrg hvs
 unfold s_law28_AlarmFalse_3
 refine leS (s3.hp h) ?_
 refine Bn_ltT (by omega) (Gd_T (Gd_T (Bn_ltT (by omega) (Pick_T (If_T (iaH h ‹_› (by omega) fun zb zo zk zv zc => ?_))))))
 refine faS (lh1 h ‹_› ‹_› (by rfl) ?_)
 refine cl1 h n_law28_pick (cp h.ext) fun w h => ?_
 refine Bn_ad (by omega) (by omega) (Bt_miE hte ?_)
 clear hte cp
 refine Jn3.mk fun K lf => ?_
 have lf1 : ∀ {W : World} {g : Nat} {a1 : Option Addr} {b1 c1 : Nat} {a2 : Option Addr} {b2 c2 : Nat}, Hp [] w0 W [bx g tAl [str (tx B).1, str (tx B).2, .slice a1 b1 c1], ro tWc 15 (.slice a1 b1 c1) vs.length ((vs.map wr).flatMap fW), ro 3 1 (.slice a2 b2 c2) rg.length (rg.flatMap fN), bx g25 tAl [str (tx B).1, str (tx B).2, .slice a b c]] → K (pr g 0) (.slice a2 b2 c2) (.int .i64 0) W := fun {W} {g} {a} {b} {c} {a2} {b2} {c2} h => lf _ _ _ W (by
  exact fa_4 (n := n + 7) hE hC hm b10 (by omega) hri (by omega) s3 hp hpk (by omega) (by omega) hk h)
 clear lf hk
 replace h := h.dr
 refine dlA h 1 rfl rfl ?_
 refine dscB (sF.hp h) ht1 ht2 fun v1 p1 => ?_
 have hpF : ∀ {W : World}, Ext w0 W → Fk W v1 (part fl at0 t) := fun {W} e => ⟨by
  have := p1.2 _ (sF.ext e)
  rw [hpf, ← hlt] at this
  exact this, vfs_fi hVt, by omega⟩
 clear p1
 refine ⟨?_, ?_⟩
 ·refine Cl_i n_alarm_Observe (ccO h.ext (qZ 0 h rfl) (hpF h.ext)) ?_
  rintro _ W2 ⟨a, b, c, a', b', c', rfl, h1⟩
  have h := (h.cat2 h1 ro_sm ro_sm).pick [0, 1, 3] (by decide) rfl
  clear h1 ccO
  refine ExP3x (alS h fun g1 w h => ?_)
  refine klA h 3 rfl rfl ?_
  refine stA h 0 rfl rfl rfl rfl fun w h => ?_
  exact lf1 h
 ·refine alS h fun g1 w h => ?_
  refine klA h 2 rfl rfl ?_
  refine Cl_i n_alarm_Observe (ccO h.ext (qZ 1 h rfl) (hpF h.ext)) ?_
  rintro _ W2 ⟨a, b, c, a', b', c', rfl, h1⟩
  have h := (h.cat2 h1 ro_sm ro_sm).pick [2, 0, 1, 4] (by decide) rfl
  clear h1 ccO
  refine ExP3x (stA h 0 rfl rfl rfl rfl fun w h => ?_)
  exact lf1 h
omit sF hV hfn hnn hat hs0
set_option maxHeartbeats 16000000 in
theorem fa_9 {W : World} {j : Nat} {rg : List Nat} {S : Rat} {a : Option Addr} {b c : Nat} {a' : Option Addr} {b' c' : Nat} {k9 : Value → Value → World → Prop} (hrl : rg.length ≤ 12) (hri : ∀ i ∈ rg, i < ws.length) (hj : j ≤ rg.length) (b16 : Blk w0 g16 tR (fR (tx S))) (hkz : 0 ≤ kz ∧ kz ≤ 1000)
 (hk9 : ∀ i, rg[j]? = some i → ∀ {W' : World}, Hp [] w0 W' [ro tWc 15 (.slice a b c) ws.length ((ws.map wr).flatMap fW), ro 3 1 (.slice a' b' c') rg.length (rg.flatMap fN), bx g25 tAl [str (tx B).1, str (tx B).2, .slice a b c]] → k9 (.bool (fg || ringAt m ws i)) (.int .i64 ((j : Int) + 1)) W')
 (hend1 : j = rg.length → fg = true → ∀ {W' : World}, Ext w0 W' → s_law28_AlarmFalse_10 Tryz.prog (pr g18 0) (.agg #[str (tx S).1, str (tx S).2]) (pr g16 0) (.int .i64 kz) k2 W' R)
 (hend0 : j = rg.length → fg = false → ∀ {W' : World}, Ext w0 W' → k2 (.int .i64 (kz + 1)) W')
 (h : Hp [] w0 W [ro tWc 15 (.slice a b c) ws.length ((ws.map wr).flatMap fW), ro 3 1 (.slice a' b' c') rg.length (rg.flatMap fN), bx g25 tAl [str (tx B).1, str (tx B).2, .slice a b c]]) :
 s_law28_AlarmFalse_9 Tryz.prog (.slice a' b' c') (.int .i64 (j : Int)) (pr g25 0) (.bool fg) (pr g10 0) (pr g16 0) (pr g18 0) (.int .i64 kz) k9 k2 W R := by
 have hlen := hB.len
 by_cases hjl : j < rg.length
 rotate_left
 ·have hend1 := @hend1 (by omega)
  have hend0 := @hend0 (by omega)
  clear hk9
  rcases Bool.eq_false_or_eq_true fg with hf | hf
  ·subst hf
   unfold s_law28_AlarmFalse_9
   refine leS (qZ 1 h rfl) ?_
   refine Bn_ltF (by omega) (If_F (If_T (lgA h ‹_› (by rfl) ?_)))
   exact hend1 rfl h.ext
  ·subst hf
   unfold s_law28_AlarmFalse_9
   refine leS (qZ 1 h rfl) ?_
   refine Bn_ltF (by omega) (If_F (If_F (Bn_ad (by omega) (by omega) ?_)))
   exact hend0 rfl h.ext
 clear hend1 hend0
 refine Exists.elim (p := fun x => rg[j]? = some x) ⟨_, List.getElem?_eq_getElem hjl⟩ fun i hi => ?_
 have hiv := hri i (List.mem_of_getElem? hi)
 refine Exists.elim (p := fun x => ws[i]? = some x) ⟨_, List.getElem?_eq_getElem hiv⟩ fun v hv => ?_
 have si : Seg (rg.flatMap fN) (j * 1) (fN i) := flat_seg (f := fN) (fun _ => rfl) hi
 have sv : Seg ((ws.map wr).flatMap fW) (i * 15) (cT v) := flat_seg (f := fW) (fun _ => rfl) (l := ws.map wr) (a := wr v) (by rw [List.getElem?_map, hv]; rfl)
 have hk9 := @hk9 i hi
 rw [ringAt_some hv] at hk9
 have vv := hB.ok v (List.mem_of_getElem? hv)
 have cc1 := fun {W : World} (e : Ext w0 W) => k_cmp (w := W) (Sm.rb vv.mu (.inl rfl)) hm (hE.hT.ext e)
 rcases Bool.eq_false_or_eq_true fg with hf | hf
 ·subst hf
  rw [Bool.true_or] at hk9
  clear cc1
  unfold s_law28_AlarmFalse_9
  refine leS (qZ 1 h rfl) ?_
  refine Bn_ltT (by omega) (If_T ?_)
  replace h := h.dr
  refine diR h 1 rfl (by omega) fun zg zk zv => ?_
  refine dr0 h 1 rfl ‹_› si (by rfl) ?_
  refine Dv_ltF (by omega) (GdP_F (GdP_F (GdP_F (diR h 1 rfl (by omega) fun zg zk zv => ?_))))
  refine GdP_F (dr0 h 1 rfl ‹_› si (by rfl) ?_)
  refine GdP_F (dfS (GdP_F (dl1 h 2 rfl rfl (GdP_F (dlS (qZ 0 h rfl) ?_)))))
  refine GdP_F (Dv_geF (by omega) (PickP_F (If_F (GdP_TF (GdP_TF (GdP_TF (GdP_TF (GdP_TF (GdP_TF (GdP_TF (GdP_TF (GdP_TF (GdP_TF ?_)))))))))))))
  replace h := h.dr
  refine Gd_TF (GdP_TF (PickP_T (Bn_ad (by omega) (by omega) ?_)))
  exact hk9 h
 ·subst hf
  rw [Bool.false_or] at hk9
  by_cases hc : m ≤ v.mu
  ·have hcm : 0 ≤ cmpQ v.mu m := (cmp_ge _ _).2 hc
   rw [decide_eq_true hc] at hk9
   unfold s_law28_AlarmFalse_9
   refine leS (qZ 1 h rfl) ?_
   refine Bn_ltT (by omega) (If_T ?_)
   replace h := h.dr
   refine diR h 1 rfl (by omega) fun zg zk zv => ?_
   refine dr0 h 1 rfl ‹_› si (by rfl) ?_
   refine Dv_ltF (by omega) (GdP_F (GdP_F (GdP_F (diR h 1 rfl (by omega) fun zg zk zv => ?_))))
   refine GdP_F (dr0 h 1 rfl ‹_› si (by rfl) ?_)
   refine GdP_F (dfS (GdP_F (dl1 h 2 rfl rfl (GdP_F (dlS (qZ 0 h rfl) ?_)))))
   refine GdP_F (Dv_geF (by omega) (PickP_F (If_F (GdP_F ?_))))
   replace h := h.dr
   refine dfS (GdP_F (dl1 h 2 rfl rfl (GdP_F (GdP_F (GdP_F (diR h 1 rfl (by omega) fun zg zk zv => ?_))))))
   refine GdP_F (dr0 h 1 rfl ‹_› si (by rfl) ?_)
   refine GdP_F (diR h 0 rfl (by omega) fun zg zk zv => ?_)
   refine GdP_F (dfS (GdP_F (drP h 0 rfl ‹_› sv (by rfl) ?_)))
   refine GdP_F (dgA h ‹_› (by rfl) ?_)
   refine Gd_F (cl1 h n_rational_Compare (cc1 h.ext) fun w h => ?_)
   refine GdP_F (Dv_geT (by omega) (PickP_F (Bn_ad (by omega) (by omega) ?_)))
   exact hk9 h
  ·have hcm : ¬ 0 ≤ cmpQ v.mu m := fun h => hc ((cmp_ge _ _).1 h)
   rw [decide_eq_false hc] at hk9
   unfold s_law28_AlarmFalse_9
   refine leS (qZ 1 h rfl) ?_
   refine Bn_ltT (by omega) (If_T ?_)
   replace h := h.dr
   refine diR h 1 rfl (by omega) fun zg zk zv => ?_
   refine dr0 h 1 rfl ‹_› si (by rfl) ?_
   refine Dv_ltF (by omega) (GdP_F (GdP_F (GdP_F (diR h 1 rfl (by omega) fun zg zk zv => ?_))))
   refine GdP_F (dr0 h 1 rfl ‹_› si (by rfl) ?_)
   refine GdP_F (dfS (GdP_F (dl1 h 2 rfl rfl (GdP_F (dlS (qZ 0 h rfl) ?_)))))
   refine GdP_F (Dv_geF (by omega) (PickP_F (If_F (GdP_F ?_))))
   replace h := h.dr
   refine dfS (GdP_F (dl1 h 2 rfl rfl (GdP_F (GdP_F (GdP_F (diR h 1 rfl (by omega) fun zg zk zv => ?_))))))
   refine GdP_F (dr0 h 1 rfl ‹_› si (by rfl) ?_)
   refine GdP_F (diR h 0 rfl (by omega) fun zg zk zv => ?_)
   refine GdP_F (dfS (GdP_F (drP h 0 rfl ‹_› sv (by rfl) ?_)))
   refine GdP_F (dgA h ‹_› (by rfl) ?_)
   refine Gd_F (cl1 h n_rational_Compare (cc1 h.ext) fun w h => ?_)
   refine GdP_F (Dv_geF (by omega) (PickP_F (Bn_ad (by omega) (by omega) ?_)))
   exact hk9 h
theorem fa_8 {W : World} {rg : List Nat} {S : Rat} {a : Option Addr} {b c : Nat} {a' : Option Addr} {b' c' : Nat} (hrl : rg.length ≤ 12) (hri : ∀ i ∈ rg, i < ws.length) (b16 : Blk w0 g16 tR (fR (tx S))) (hkz : 0 ≤ kz ∧ kz ≤ 1000)
 (hend1 : (fg || rg.any (ringAt m ws)) = true → ∀ {W' : World}, Ext w0 W' → s_law28_AlarmFalse_10 Tryz.prog (pr g18 0) (.agg #[str (tx S).1, str (tx S).2]) (pr g16 0) (.int .i64 kz) k2 W' R)
 (hend0 : (fg || rg.any (ringAt m ws)) = false → ∀ {W' : World}, Ext w0 W' → k2 (.int .i64 (kz + 1)) W')
 (h : Hp [] w0 W [ro tWc 15 (.slice a b c) ws.length ((ws.map wr).flatMap fW), ro 3 1 (.slice a' b' c') rg.length (rg.flatMap fN), bx g25 tAl [str (tx B).1, str (tx B).2, .slice a b c]]) :
 s_law28_AlarmFalse_8 Tryz.prog (.int .i64 0) (.bool fg) (.slice a' b' c') (pr g25 0) (pr g10 0) (pr g16 0) (pr g18 0) (.int .i64 kz) k2 W R := by
 unfold s_law28_AlarmFalse_8
 refine Bn_neF (by omega) (If_F ?_)
 refine Lp2.mk (fun p q W' => ∃ j : Nat, j ≤ rg.length ∧ p = .bool (fg || (rg.take j).any (ringAt m ws)) ∧ q = .int .i64 j ∧ Hp [] w0 W' [ro tWc 15 (.slice a b c) ws.length ((ws.map wr).flatMap fW), ro 3 1 (.slice a' b' c') rg.length (rg.flatMap fN), bx g25 tAl [str (tx B).1, str (tx B).2, .slice a b c]])
  (fun _ q _ => match q with | .int _ i' => rg.length - i'.toNat | _ => 0) ⟨0, by omega, by rw [List.take_zero]; show _ = Value.bool (fg || false); rw [Bool.or_false], rfl, h⟩ ?_
 clear h
 rintro _ _ W1 ⟨j, hj, rfl, rfl, h⟩
 refine fa_9 hE hB hn hm b10 hrl hri hj b16 hkz (fun i hi W2 h2 => ?_) (fun hjr hf W2 e => ?_) (fun hjr hf W2 e => ?_) h
 ·exact ⟨⟨j + 1, by have := (List.getElem?_eq_some_iff.1 hi).1; omega, by rw [any_snoc _ hi, Bool.or_assoc], rfl, h2⟩, by show rg.length - ((j : Int) + 1).toNat < rg.length - (j : Int).toNat; have := (List.getElem?_eq_some_iff.1 hi).1; omega⟩
 ·rw [hjr, List.take_length] at hf
  exact hend1 hf e
 ·rw [hjr, List.take_length] at hf
  exact hend0 hf e
include sF hV hfn hnn hat
set_option maxHeartbeats 16000000 in
theorem fa_3e {W : World} {S : Rat} {a : Option Addr} {b c : Nat} {fin : Bool} (s3 : SlC w0 9 v3 pl.length (pl.flatMap fCh)) (hkk : kk ≤ 5) (hke : kk = 5 ∨ kk = pl.length) (b16 : Blk w0 g16 tR (fR (tx S))) (hkz : 0 ≤ kz ∧ kz ≤ 1000)
 (hfin : (fg || bad m ws (obs ws (fl.drop at0))) = fin)
 (hend1 : fin = true → ∀ {W' : World}, Ext w0 W' → s_law28_AlarmFalse_10 Tryz.prog (pr g18 0) (.agg #[str (tx S).1, str (tx S).2]) (pr g16 0) (.int .i64 kz) k2 W' R)
 (hend0 : fin = false → ∀ {W' : World}, Ext w0 W' → k2 (.int .i64 (kz + 1)) W')
 (h : Hp [] w0 W [ro tWc 15 (.slice a b c) ws.length ((ws.map wr).flatMap fW), bx g25 tAl [str (tx B).1, str (tx B).2, .slice a b c]]) :
 s_law28_AlarmFalse_3 Tryz.prog v3 (.int .i64 (kk : Int)) (.int .i64 (at0 : Int)) (.int .i64 (nn : Int)) (pr g25 0) fv (.bool fg) (pr g10 0) (.int .i64 (s0 : Int)) (pr g16 0) (pr g18 0) (.int .i64 kz) k5 k2 W R := by
 have hdp : fl.drop at0 = part fl at0 fl.length := by unfold part; rw [List.take_length]
 have hVt := part_VFs hV at0 fl.length
 have hlt := part_n (fl := fl) (i := at0) (j := fl.length) (by omega) (by omega)
 rw [hdp] at hfin
 obtain ⟨vs, hvs⟩ : ∃ vs, obs ws (part fl at0 fl.length) = vs := ⟨_, rfl⟩
 have hlen : vs.length = ws.length := by rw [← hvs]; exact Alm.obs_len _ _
 have hbad : bad m ws vs = (rungs ws vs 0).any (ringAt m vs) := Alm.bad_any (fun j => by rw [Nat.zero_add]) hlen.symm
 have hra : ringAt m vs = ringAt m ws := by funext i; rw [← hvs]; exact ringAt_obs i
 have hrl := Alm.rungs_len ws vs 0
 have hbl := hB.len
 have hri : ∀ i ∈ rungs ws vs 0, i < ws.length := fun i hi => by
  obtain ⟨j, _, v, e, h2, _⟩ := Alm.rungs_mem hi
  have := (List.getElem?_eq_some_iff.1 h2).1
  omega
 have ccO : ∀ {W : World} {v1 : Value}, Ext w0 W → SlC W 15 (.slice a b c) ws.length ((ws.map wr).flatMap fW) → Fk W v1 (part fl at0 fl.length) → Calls Tryz.prog 24 #[vA (tx B) (.slice a b c), v1] W
  (Ret fun o w' => ∃ a b c a' b' c', o = .tuple #[vA (tx B) (.slice a b c), .slice a' b' c', .int .i64 0] ∧ Hp [] W w' [ro tWc 15 (.slice a b c) vs.length ((vs.map wr).flatMap fW), ro 3 1 (.slice a' b' c') (rungs ws vs 0).length ((rungs ws vs 0).flatMap fN)]) := fun {W} {v1} e sb hF => by
  have := c_ObsK (w0 := W) hB (by omega) sb (hE.ext e) hF hVt (by omega)
  rw [hvs] at this
  exact this
 rw [hvs, hbad, hra] at hfin
 rw [← hfin] at hend1 hend0
 obtain ⟨rg, hrg⟩ : ∃ rg, rungs ws vs 0 = rg := ⟨_, rfl⟩
 rw [hrg] at hend1 hend0 hrl hri ccO
 clear hbad hrg hvs hra hfin hdp
 have hpF : ∀ {W : World} {v1 : Value}, Part 10 fv fl.length (fl.flatMap fF) v1 (fl.length - at0) ((fl.flatMap fF).drop (at0 * 10)) → Ext w0 W → Fk W v1 (part fl at0 fl.length) := fun {W} {v1} p1 e => ⟨by
  have := p1.2 _ (sF.ext e)
  rw [drop_flat (c := 10) (f := fF) (fun _ => rfl)] at this
  rw [hlt]
  unfold part
  rw [List.take_length]
  exact this, vfs_fi hVt, by omega⟩
 have h8 : ∀ {W : World} {a2 : Option Addr} {b2 c2 : Nat}, Hp [] w0 W [ro 3 1 (.slice a2 b2 c2) rg.length (rg.flatMap fN), ro tWc 15 (.slice a b c) ws.length ((ws.map wr).flatMap fW), bx g25 tAl [str (tx B).1, str (tx B).2, .slice a b c]] → s_law28_AlarmFalse_8 Tryz.prog (.int .i64 0) (.bool fg) (.slice a2 b2 c2) (pr g25 0) (pr g10 0) (pr g16 0) (pr g18 0) (.int .i64 kz) k2 W R := fun {W} {a2} {b2} {c2} h => fa_8 hE hB hn hm b10 (by omega) hri b16 hkz hend1 hend0 (h.pick [1, 0, 2] (by decide) rfl)
 clear hend1 hend0
 unfold s_law28_AlarmFalse_3
 revert h
 revert W
 apply meetF
 ·intro W lfT h
  by_cases hc : kk < pl.length
  ·have hc5 : ¬ kk < 5 := by omega
   refine leS (s3.hp h) ?_
   refine Bn_ltT (by omega) (Gd_T (Gd_T (Bn_ltF (by omega) (Pick_T (If_F ?_)))))
   exact lfT _ h
  ·refine leS (s3.hp h) ?_
   refine Bn_ltF (by omega) (Gd_FT (Gd_FT (Pick_F (If_F ?_))))
   exact lfT _ h
 intro W h
 refine Jn2.mk fun K lf => ?_
 have lf1 : ∀ {W : World} {a2 : Option Addr} {b2 c2 : Nat}, Hp [] w0 W [ro 3 1 (.slice a2 b2 c2) rg.length (rg.flatMap fN), ro tWc 15 (.slice a b c) ws.length ((ws.map wr).flatMap fW), bx g25 tAl [str (tx B).1, str (tx B).2, .slice a b c]] → K (.slice a2 b2 c2) (.int .i64 0) W := fun {W} {a2} {b2} {c2} h => lf _ _ _ (h8 h)
 clear lf h8
 replace h := h.dr
 refine dlA h 1 rfl rfl ?_
 refine dscL (sF.hp h) (by omega) fun v1 p1 => ?_
 refine ⟨?_, ?_⟩
 ·refine Cl_i n_alarm_Observe (ccO h.ext (qZ 0 h rfl) (hpF p1 h.ext)) ?_
  rintro _ W2 ⟨a, b, c, a', b', c', rfl, h1⟩
  have h := (h.cat2 h1 ro_sm ro_sm).pick [1, 2, 3] (by decide) rfl
  clear h1 ccO hpF
  refine ExP3x (alS h fun g1 w h => ?_)
  refine klA h 3 rfl rfl ?_
  refine stA h 0 rfl rfl rfl rfl fun w h => ?_
  exact lf1 (h.pick [1, 2, 3] (by decide) rfl)
 ·refine alS h fun g1 w h => ?_
  refine klA h 2 rfl rfl ?_
  refine Cl_i n_alarm_Observe (ccO h.ext (qZ 1 h rfl) (hpF p1 h.ext)) ?_
  rintro _ W2 ⟨a, b, c, a', b', c', rfl, h1⟩
  have h := (h.cat2 h1 ro_sm ro_sm).pick [2, 1, 3, 4] (by decide) rfl
  clear h1 ccO hpF
  refine ExP3x (stA h 0 rfl rfl rfl rfl fun w h => ?_)
  exact lf1 (h.pick [1, 2, 3] (by decide) rfl)
end
end Go.Proofs.YtnkmbjedcjcccaaGreatDoor
namespace Go.Proofs.YtnkmbjedcjcccaaGreatDoor
open Go Go.Eng Go.Proofs Go.Num Go.RowKit
open Go.Alm (Ft Wt Sm VW VA dn fct obs obs1 rungs obsN fresh sumW fts bad ringAt Mk Ok pot Step RegOk runS Inv DN wtL bitsL)
set_option maxRecDepth 100000
theorem regF_VB {n : Int} {B : Rat} {ws : List Wt} (h : VB n B ws) (hn : 0 ≤ n) (p : Cc) (sn : Nat) : VB n B (regF B p sn ws) := by
 unfold regF
 split
 ·exact h
 ·exact reg1_VB h (mkWc_reg _) hn
noncomputable def stepsF (B : Rat) (pl : List Cc) : List Step := (pl.take 5).map (stepF B)
theorem steps_drop {B : Rat} {pl : List Cc} {k : Nat} {p : Cc} (h : pl[k]? = some p) (hk : k < 5) : (stepsF B pl).drop k = ((pickZ p.more 4).toNat, regF B p) :: (stepsF B pl).drop (k + 1) := by
 have e : (stepsF B pl)[k]? = some (stepF B p) := by
  unfold stepsF
  rw [List.getElem?_map, List.getElem?_take, if_pos hk, h]
  rfl
 obtain ⟨h1, h2⟩ := List.getElem?_eq_some_iff.1 e
 rw [List.drop_eq_getElem_cons h1, h2]
 rfl
theorem steps_end {B : Rat} {pl : List Cc} {k : Nat} (h : k = 5 ∨ k = pl.length) : (stepsF B pl).drop k = [] := by
 refine List.drop_of_length_le ?_
 unfold stepsF
 rw [List.length_map, List.length_take]
 omega
section
variable {w0 : World} {R : Ending → World → Prop} {B m : Rat} {v3 fv : Value} {y : List Bool} {g10 g16 g18 : Nat} {kz : Int} {k2 : Value → World → Prop} {pl : List Cc} {fin : Bool}
set_option maxHeartbeats 16000000 in
theorem fa_2 {S : Rat} (hE : En w0) (hm : RB m) (b10 : Blk w0 g10 tR (fR (tx m))) (sF : SlC w0 10 fv (fts mkb 0 y).length ((fts mkb 0 y).flatMap fF)) (hnn : y.length ≤ 7) (s3 : SlC w0 9 v3 pl.length (pl.flatMap fCh)) (hpl : ∀ p ∈ pl, Cck p) (n3 : pl.length ≤ 9223372036854775807) (hV0 : VB 0 B []) (b16 : Blk w0 g16 tR (fR (tx S))) (hkz : 0 ≤ kz ∧ kz ≤ 1000)
 (hfin : (runS m mkb (stepsF B pl) 0 [] 0 false y).2 = fin)
 (hend1 : fin = true → ∀ {W' : World}, Ext w0 W' → s_law28_AlarmFalse_10 Tryz.prog (pr g18 0) (.agg #[str (tx S).1, str (tx S).2]) (pr g16 0) (.int .i64 kz) k2 W' R)
 (hend0 : fin = false → ∀ {W' : World}, Ext w0 W' → k2 (.int .i64 (kz + 1)) W') :
 s_law28_AlarmFalse_2 Tryz.prog (.agg #[str (tx B).1, str (tx B).2, .slice none 0 0]) v3 (.int .i64 (y.length : Nat)) fv (pr g10 0) (pr g16 0) (pr g18 0) (.int .i64 kz) k2 w0 R := by
 have hV := fts_VFs hnn
 have hfl : (fts mkb 0 y).length = y.length := Alm.fts_len _ _ _
 unfold s_law28_AlarmFalse_2
 have h := (Hp.init [] w0).nil tWc 15
 refine alS h fun g1 w h => ?_
 refine stA h 0 rfl rfl rfl rfl fun w h => ?_
 dsimp only [List.set] at h
 have h := h.pick [1, 0] (by decide) rfl
 refine Lp4.mk (fun p q r s W => ∃ (kk at0 sn : Nat) (fg : Bool) (ws : List Wt) (a : Option Addr) (b c : Nat), kk ≤ 5 ∧ kk ≤ pl.length ∧ at0 ≤ y.length ∧ sn ≤ 12 * kk ∧ VB (10 * kk) B ws ∧ (runS m mkb ((stepsF B pl).drop kk) at0 ws sn fg (y.drop at0)).2 = fin ∧ p = .int .i64 at0 ∧ q = .int .i64 sn ∧ r = .bool fg ∧ s = .int .i64 kk ∧
  Hp [] w0 W [ro tWc 15 (.slice a b c) ws.length ((ws.map wr).flatMap fW), bx g1 tAl [str (tx B).1, str (tx B).2, .slice a b c]])
  (fun _ _ _ s _ => match s with | .int _ x => 5 - x.toNat | _ => 0) ⟨0, 0, 0, false, [], none, 0, 0, by omega, by omega, by omega, by omega, hV0, hfin, rfl, rfl, rfl, rfl, h⟩ ?_
 clear h hfin
 rintro _ _ _ _ W ⟨kk, at0, sn, fg, ws, a, b, c, hk5, hkl, hat, hsn, hB, hfin, rfl, rfl, rfl, rfl, h⟩
 by_cases hc : kk < pl.length ∧ kk < 5
 ·refine Exists.elim (p := fun x => pl[kk]? = some x) ⟨_, List.getElem?_eq_getElem hc.1⟩ fun p hp => ?_
  have hpk := hpl p (List.mem_of_getElem? hp)
  have hrl := Alm.rungs_len ws (obs ws (part (fts mkb 0 y) at0 (min y.length (at0 + (pickZ p.more 4).toNat)))) 0
  have hbl := hB.len
  have hVp := part_VFs hV at0 (min y.length (at0 + (pickZ p.more 4).toNat))
  have hpn := part_len (fts mkb 0 y) at0 (min y.length (at0 + (pickZ p.more 4).toNat))
  have hstep := Alm.runS_step (m := m) (mk := mkb) (R := regF B p) (p := (stepsF B pl).drop (kk + 1)) (sn := sn) (ws := ws) (wr := fg) hat rfl (vs := obs ws (part (fts mkb 0 y) at0 (min y.length (at0 + (pickZ p.more 4).toNat)))) rfl
  rw [steps_drop hp hc.2, hstep] at hfin
  refine fa_3 (n := 10 * kk) (g16 := g16) (g18 := g18) (kz := kz) (k2 := k2) hE hB (by omega) hm b10 sF hV hfl hnn hat (by omega) s3 hp hpk hc.2 rfl (fun {W'} {a} {b} {c} h => ?_) h
  exact ⟨⟨kk + 1, _, _, _, _, a, b, c, by omega, by omega, by omega, by omega, regF_VB ((hB.obs hVp).mono (by omega)) (by omega) p _, hfin, rfl, rfl, rfl, rfl, h⟩, by show 5 - ((kk : Int) + 1).toNat < 5 - (kk : Int).toNat; omega⟩
 ·have hke : kk = 5 ∨ kk = pl.length := by omega
  rw [steps_end hke, Alm.runS_end rfl] at hfin
  exact fa_3e (n := 10 * kk) hE hB (by omega) hm b10 sF hV hfl hnn hat s3 hk5 hke b16 hkz hfin hend1 hend0 h
end
theorem pow_bd {d n : Nat} (hd : 0 < d ∧ d ≤ 5) (hn : n ≤ 7) : 0 < d ^ n ∧ d ^ n ≤ 78125 := by
 refine ⟨Nat.pow_pos hd.1, ?_⟩
 have h1 := Nat.pow_le_pow_left hd.2 n
 have h2 := Nat.pow_le_pow_right (show 0 < 5 by decide) hn
 have : 5 ^ 7 = 78125 := by decide
 omega
theorem DN_SR {d n : Nat} {x : Rat} {M : Int} (h : DN (d ^ n) x) (h0 : 0 ≤ x) (h1 : x ≤ (M : Rat)) (hM : 0 ≤ M ∧ M ≤ 128) (hd : 0 < d ∧ d ≤ 5) (hn : n ≤ 7) : SR 8 5 x := by
 have hp := pow_bd hd hn
 obtain ⟨z, z0, z1, rfl⟩ := Alm.DN.is h h0 h1 hp.1
 have z2 : M * ((d ^ n : Nat) : Int) ≤ 128 * 78125 := Int.mul_le_mul hM.2 (by omega) (by omega) (by omega)
 refine .of ?_ ?_ (by omega)
 ·unfold Sz; have : 10 ^ 8 = 100000000 := by decide
  omega
 ·unfold Sz; have : 10 ^ 5 = 100000 := by decide
  omega
noncomputable def sumS (m : Rat) (F : List Bool → Bool) (n k : Nat) : Rat := sumN k (fun j => wtL m (bitsL n j) * if F (bitsL n j) then 1 else 0)
theorem fts_snoc {y : List Bool} {i : Nat} {b : Bool} (h : y[i]? = some b) : fts mkb 0 (y.take (i + 1)) = fts mkb 0 (y.take i) ++ [mkb i b] := by
 apply List.ext_getElem?
 intro j
 have hl := (List.getElem?_eq_some_iff.1 h).1
 have hln : (fts mkb 0 (y.take i)).length = i := by rw [Alm.fts_len, List.length_take]; omega
 rw [Alm.fts_get, List.getElem?_take]
 by_cases h1 : j < i
 ·rw [if_pos (by omega), List.getElem?_append_left (by omega), Alm.fts_get, List.getElem?_take, if_pos h1]
 ·rw [List.getElem?_append_right (by omega), hln]
  by_cases h2 : j = i
  ·subst h2
   rw [if_pos (by omega), h, Nat.sub_self, show 0 + j = j by omega]
   rfl
  ·rw [if_neg (by omega), List.getElem?_eq_none (l := [mkb i b]) (by show 1 ≤ _; omega)]
   rfl
section
variable {w0 : World} {R : Ending → World → Prop} {B m : Rat} {v3 : Value} {g10 g11 g13 g14 g16 k d nn : Nat} {k2 : Value → World → Prop} {pl : List Cc}
variable (hE : En w0) (hd : 0 < d ∧ d ≤ 5) (hmd : DN d m) (hm0 : 0 ≤ m) (hm1 : m ≤ 1) (hms : SR 4 4 m) (hns : SR 4 4 (1 - m)) (b10 : Blk w0 g10 tR (fR (tx m))) (b11 : Blk w0 g11 tR (fR (tx (1 - m)))) (b13 : Blk w0 g13 tR (fR (tx B))) (b14 : Blk w0 g14 tAl [str (tx B).1, str (tx B).2, .slice none 0 0])
 (s3 : SlC w0 9 v3 pl.length (pl.flatMap fCh)) (hpl : ∀ p ∈ pl, Cck p) (n3 : pl.length ≤ 9223372036854775807) (hV0 : VB 0 B []) (hnn : nn ≤ 7)
include hE hd hmd hm0 hm1 hms hns b10 b11 b13 b14 s3 hpl n3 hV0 hnn
set_option maxHeartbeats 16000000 in
theorem fa_1 {W : World} {y : List Bool} (hy : bitsL nn k = y) (hk : k < 2 ^ nn)
 (hk2 : ∀ {W' : World}, Hp [] w0 W' [bx g16 tR (fR (tx (sumS m (fun y => (runS m mkb (stepsF B pl) 0 [] 0 false y).2) nn (k + 1))))] → k2 (.int .i64 ((k : Int) + 1)) W')
 (h : Hp [] w0 W [bx g16 tR (fR (tx (sumS m (fun y => (runS m mkb (stepsF B pl) 0 [] 0 false y).2) nn k)))]) :
 s_law28_AlarmFalse_1 Tryz.prog (.int .i64 (nn : Int)) (.int .i64 (k : Int)) (pr g11 0) (pr g10 0) (pr g14 0) v3 (pr g16 0) (pr g13 0) k2 W R := by
 have hyl : y.length = nn := by rw [← hy]; exact Alm.bitsL_len _ _
 have hyg : ∀ i, i < nn → y[i]? = some (decide (k / 2 ^ i % 2 = 1)) := fun i hi => by rw [← hy]; exact Alm.bitsL_get hi
 obtain ⟨F, hF⟩ : ∃ F : List Bool → Bool, (fun y => (runS m mkb (stepsF B pl) 0 [] 0 false y).2) = F := ⟨_, rfl⟩
 have hFy : (runS m mkb (stepsF B pl) 0 [] 0 false y).2 = F y := congrFun hF y
 rw [hF] at h hk2
 have hsum : sumS m F nn (k + 1) = sumS m F nn k + wtL m y * if F y then 1 else 0 := by
  unfold sumS
  rw [sumN, hy]
 have sb := Alm.sum_bd hm0 hm1 (n := nn) hmd F k
 have hp2 := pow_bd (d := 2) (n := nn) (by decide) hnn
 have hk128 : k ≤ 127 := by
  have h2 := Nat.pow_le_pow_right (show 0 < 2 by decide) hnn
  have : 2 ^ 7 = 128 := by decide
  omega
 have hsr : SR 8 5 (sumS m F nn k) := DN_SR sb.2.2 sb.1 sb.2.1 (by omega) hd hnn
 have hsw : ∀ i, i ≤ nn → SR 8 5 (wtL m (y.take i)) := fun i hi => by
  have h1 := Alm.wtL_DN hmd (y.take i)
  have h2 := Alm.wtL_bd hm0 hm1 (y.take i)
  rw [List.length_take] at h1
  exact DN_SR (M := 1) h1 h2.1 (by exact_mod_cast h2.2) (by decide) hd (by omega)
 have hRBm : RB m := hms.rb (by decide) (by decide)
 obtain ⟨S, hS⟩ : ∃ S, sumS m F nn k = S := ⟨_, rfl⟩
 obtain ⟨S', hS'⟩ : ∃ S', sumS m F nn (k + 1) = S' := ⟨_, rfl⟩
 rw [hS, hS'] at hsum
 rw [hS] at hsr h
 rw [hS'] at hk2
 clear hS hS' sb hF hy
 have cc1 : ∀ {W : World}, Ext w0 W → Calls Tryz.prog 30 #[.int .i64 1, .int .i64 1] W (Ret fun r w' => Ext W w' ∧ r = vR (tx (xL true))) := fun {W} e => by
  have := c_of (w := W) (n := 1) (d := 1) (hE.hT.ext e) (by decide) (by decide) (by decide)
  rw [q_div1] at this
  exact this
 obtain ⟨N, hN⟩ : ∃ N, 2 ^ nn = N := ⟨_, rfl⟩
 rw [hN] at hk hp2
 unfold s_law28_AlarmFalse_1
 refine Bn_slA (by omega) hN ?_
 refine Bn_ltT (by omega) (If_T (cl1 h n_law28_of (cc1 h.ext) fun w h => ?_))
 refine alS h fun g1 w h => ?_
 refine stA h 0 rfl rfl rfl rfl fun w h => ?_
 dsimp only [List.set] at h
 clear cc1 hN
 have h := h.nil tFc 10
 refine Lp2.mk (fun p q W' => ∃ i : Nat, i ≤ nn ∧ q = .int .i64 i ∧ Hp [] w0 W' [ro tFc 10 p (fts mkb 0 (y.take i)).length ((fts mkb 0 (y.take i)).flatMap fF), bx g1 tR (fR (tx (wtL m (y.take i)))), bx g16 tR (fR (tx S))])
  (fun _ q _ => match q with | .int _ x => nn - x.toNat | _ => 0) ⟨0, by omega, rfl, h⟩ ?_
 clear h
 rintro p _ W1 ⟨i, hi, rfl, h⟩
 by_cases hin : i < nn
 ·have hyi := hyg i hin
  have hsi := hsw i hi
  have hln : (fts mkb 0 (y.take i)).length ≤ 7 := by rw [Alm.fts_len, List.length_take]; omega
  have esn := fts_snoc hyi
  have ewt : wtL m (y.take (i + 1)) = wtL m (y.take i) * (if decide (k / 2 ^ i % 2 = 1) then m else 1 - m) := by
   rw [List.take_add_one, hyi]
   exact Alm.wtL_snoc m _ _
  obtain ⟨s, hs⟩ : ∃ s, k / 2 ^ i = s := ⟨_, rfl⟩
  rw [hs] at esn ewt
  by_cases hb : s % 2 = 1
  ·rw [decide_eq_true hb, if_pos rfl] at ewt
   rw [decide_eq_true hb] at esn
   have cc2 := fun {W : World} (e : Ext w0 W) => k_mul (w := W) hsi hms (by decide) (by decide) (hE.hT.ext e)
   have ccf := fun {W : World} (_ : Ext w0 W) => c_fact (w0 := W) (t := (i : Int)) (lo := 100) (hi := 100) (by omega)
   rw [← ewt] at cc2
   refine Bn_ltT (by omega) (If_T (lgA h ‹_› (by rfl) ?_))
   refine alS h fun g2 w h => ?_
   refine stA h 0 rfl rfl rfl rfl fun w h => ?_
   dsimp only [List.set] at h
   refine Jn1.mk fun K lf => ?_
   have lf1 : ∀ {W : World}, Hp [] w0 W [bx g2 tR (fR (tx m)), ro tFc 10 p (fts mkb 0 (y.take i)).length ((fts mkb 0 (y.take i)).flatMap fF), bx g1 tR (fR (tx (wtL m (y.take i)))), bx g16 tR (fR (tx S))] → K (.int .i64 100) W := fun {W} h => lf _ _ (by
    refine ldA h 2 rfl rfl ?_
    refine ldA h 0 rfl rfl ?_
    refine cl1 h n_rational_Mul (cc2 h.ext) fun w h => ?_
    refine Ex2 (alS h fun g3 w h => ?_)
    refine stA h 0 rfl rfl rfl rfl fun w h => ?_
    refine Bn_neF (by omega) (If_F (ldA h 0 rfl rfl ?_))
    refine stA h 3 rfl rfl rfl rfl fun w h => ?_
    refine cl1 h n_law28_fact (ccf h.ext) fun w h => ?_
    refine bs1A h (by rfl) (by decide) (by rfl) (by decide) fun v1 w h => ?_
    refine apR (by rfl) (by decide) h 3 rfl (qZ 0 h rfl) (by first | rfl | assumption) (by omega) fun v2 w h => ?_
    refine Bn_ad (by omega) (by omega) ?_
    dsimp only [List.set] at h
    refine ⟨⟨i + 1, by omega, rfl, ?_⟩, by show nn - ((i : Int) + 1).toNat < nn - (i : Int).toNat; omega⟩
    rw [esn, List.length_append, List.flatMap_append]
    exact h.pick [3, 4, 5] (by decide) rfl)
   clear lf cc2 ccf esn ewt
   refine Bn_srA (by omega) hs ?_
   clear hs hyg hyi
   refine Bn_rm (by omega) (by omega) (Bn_eqT (by omega) (If_T (lgA h ‹_› (by rfl) ?_)))
   refine stA h 0 rfl rfl rfl rfl fun w h => ?_
   exact lf1 h
  ·rw [decide_eq_false hb, if_neg (by decide)] at ewt
   rw [decide_eq_false hb] at esn
   have cc2 := fun {W : World} (e : Ext w0 W) => k_mul (w := W) hsi hns (by decide) (by decide) (hE.hT.ext e)
   have ccf := fun {W : World} (_ : Ext w0 W) => c_fact (w0 := W) (t := (i : Int)) (lo := 0) (hi := 0) (by omega)
   rw [← ewt] at cc2
   refine Bn_ltT (by omega) (If_T (lgA h ‹_› (by rfl) ?_))
   refine alS h fun g2 w h => ?_
   refine stA h 0 rfl rfl rfl rfl fun w h => ?_
   dsimp only [List.set] at h
   refine Jn1.mk fun K lf => ?_
   have lf1 : ∀ {W : World}, Hp [] w0 W [bx g2 tR (fR (tx (1 - m))), ro tFc 10 p (fts mkb 0 (y.take i)).length ((fts mkb 0 (y.take i)).flatMap fF), bx g1 tR (fR (tx (wtL m (y.take i)))), bx g16 tR (fR (tx S))] → K (.int .i64 0) W := fun {W} h => lf _ _ (by
    refine ldA h 2 rfl rfl ?_
    refine ldA h 0 rfl rfl ?_
    refine cl1 h n_rational_Mul (cc2 h.ext) fun w h => ?_
    refine Ex2 (alS h fun g3 w h => ?_)
    refine stA h 0 rfl rfl rfl rfl fun w h => ?_
    refine Bn_neF (by omega) (If_F (ldA h 0 rfl rfl ?_))
    refine stA h 3 rfl rfl rfl rfl fun w h => ?_
    refine cl1 h n_law28_fact (ccf h.ext) fun w h => ?_
    refine bs1A h (by rfl) (by decide) (by rfl) (by decide) fun v1 w h => ?_
    refine apR (by rfl) (by decide) h 3 rfl (qZ 0 h rfl) (by first | rfl | assumption) (by omega) fun v2 w h => ?_
    refine Bn_ad (by omega) (by omega) ?_
    dsimp only [List.set] at h
    refine ⟨⟨i + 1, by omega, rfl, ?_⟩, by show nn - ((i : Int) + 1).toNat < nn - (i : Int).toNat; omega⟩
    rw [esn, List.length_append, List.flatMap_append]
    exact h.pick [3, 4, 5] (by decide) rfl)
   clear lf cc2 ccf esn ewt
   refine Bn_srA (by omega) hs ?_
   clear hs hyg hyi
   refine Bn_rm (by omega) (by omega) (Bn_eqF (by omega) (If_F ?_))
   exact lf1 h
 ·have hie : y.take i = y := List.take_of_length_le (by omega)
  rw [hie] at h
  have hwy := hsw nn (by omega)
  rw [List.take_of_length_le (by omega)] at hwy
  have sF := h.sl (i := 0) rfl
  have h16 := h.pick [1, 2] (by decide) rfl
  have hgo : ∀ {W2 : World}, Ext W1 W2 → s_law28_AlarmFalse_2 Tryz.prog (.agg #[str (tx B).1, str (tx B).2, .slice none 0 0]) v3 (.int .i64 (nn : Int)) p (pr g10 0) (pr g16 0) (pr g1 0) (.int .i64 (k : Int)) k2 W2 R := fun {W2} e => by
   have h16 := h16.x e
   rw [← hyl]
   refine fa_2 (m := m) (S := S) (hE.ext h16.ext) hRBm (b10.ext h16.ext) (sF.ext e) (by omega) (s3.ext h16.ext) hpl n3 hV0 (h16.get (i := 1) rfl) (by omega) rfl (fun hf {W'} e' => ?_) (fun hf {W'} e' => ?_)
   ·rw [hFy] at hf
    rw [hf, if_pos rfl, Rat.mul_one] at hsum
    have h := (h16.x e')
    have cc2 := fun {W : World} (e : Ext w0 W) => k_add (w := W) (k := 13) hsr hwy (by decide) (by decide) (by decide) (by decide) (hE.hT.ext e)
    rw [← hsum] at cc2
    have hk2 := fun {W'' : World} (h : Hp [] w0 W'' [bx g16 tR (fR (tx S'))]) => hk2 h
    clear hsum hwy hsr hsw
    unfold s_law28_AlarmFalse_10
    refine ldA h 0 rfl rfl ?_
    refine cl1 h n_rational_Add (cc2 h.ext) fun w h => ?_
    refine Ex2 (alS h fun g2 w h => ?_)
    refine stA h 0 rfl rfl rfl rfl fun w h => ?_
    refine Bn_neF (by omega) (If_F (ldA h 0 rfl rfl ?_))
    refine stA h 2 rfl rfl rfl rfl fun w h => ?_
    refine Bn_ad (by omega) (by omega) ?_
    dsimp only [List.set] at h
    exact hk2 (h.pick [2] (by decide) rfl)
   ·rw [hFy] at hf
    rw [hf, if_neg (by decide), Rat.mul_zero, Rat.add_zero] at hsum
    rw [← hsum] at h16
    exact hk2 ((h16.pick [1] (by decide) rfl).x e')
  clear hk2 hsw hwy hsr hsum
  refine Bn_ltF (by omega) (If_F (lgA h ‹_› (by rfl) ?_))
  exact hgo (Ext.refl _)
end
theorem sumS_le {m B : Rat} (hm0 : 0 ≤ m) (hm1 : m ≤ 1) (hB : 0 ≤ B) (pl : List Cc) (n : Nat) : sumS m (fun y => (runS m mkb (stepsF B pl) 0 [] 0 false y).2) n (2 ^ n) ≤ B := by
 have h1 := Alm.sum_mean m n fun y => if (runS m mkb (stepsF B pl) 0 [] 0 false y).2 then (1 : Rat) else 0
 unfold sumS
 rw [h1]
 have h2 := Alm.run_mean (m := m) (B := B) (mk := mkb) hm0 hm1 (p := stepsF B pl) (fun s hs => by
  unfold stepsF at hs
  obtain ⟨p, _, rfl⟩ := List.mem_map.1 hs
  exact regF_ok p) (n := n) (i := 0) (ws := []) (sn := 0) (wr := false) ⟨by simp, by show (0 : Rat) ≤ B; exact hB, by simp⟩
 refine Rat.le_trans h2 ?_
 show B - 0 + 0 ≤ B
 grind
section
variable {w0 : World} {b c nm : Int} {v3 : Value} {pl : List Cc} (hE : En w0) (hb : I64 b) (hc : I64 c) (hnm : I64 nm) (s3 : SlC w0 9 v3 pl.length (pl.flatMap fCh)) (hpl : ∀ p ∈ pl, Cck p) (n3 : pl.length ≤ 9223372036854775807)
include hE hb hc hnm s3 hpl n3
set_option maxHeartbeats 16000000 in
theorem law_False : Calls Tryz.prog 4 #[.int .i64 b, .int .i64 c, .int .i64 nm, v3] w0 (Ret fun r w' => Ext w0 w' ∧ r = .bool true) := by
 have ccs := fun {W : World} (e : Ext w0 W) => c_sane (w0 := W) (hE.ext e)
 have p8 := pickZ_bd (c := nm) (n := 8) (by decide)
 have p4 := pickZ_bd (c := c) (n := 4) (by decide)
 have p20 := pickZ_bd (c := b) (n := 20) (by decide)
 obtain ⟨nn, hnn⟩ : ∃ nn : Nat, pickZ nm 8 = nn := ⟨(pickZ nm 8).toNat, by omega⟩
 obtain ⟨d, hd⟩ : ∃ d : Nat, 2 + pickZ c 4 = d := ⟨(2 + pickZ c 4).toNat, by omega⟩
 have hd5 : 2 ≤ d ∧ d ≤ 5 := by omega
 have hn7 : nn ≤ 7 := by omega
 obtain ⟨m, hm⟩ : ∃ m, ((1 : Int) : Rat) / ((d : Int) : Rat) = m := ⟨_, rfl⟩
 have hmd : DN d m := by rw [← hm]; exact Alm.DN.inv (by omega)
 have hmS : Sm 1 m := by rw [← hm]; exact Sm.divq (by decide) (by omega) (by omega)
 have hm0 := hmS.ge
 have hm1 : m ≤ 1 := by have := hmS.le; exact_mod_cast this
 have hms := Sm.sr1 hmS
 have hns : SR 4 4 (1 - m) := by
  have h1 : (0 : Rat) ≤ 1 - m := by grind
  have h2 : 1 - m ≤ ((1 : Int) : Rat) := by
   have : ((1 : Int) : Rat) = 1 := rfl
   rw [this]; grind
  obtain ⟨z, z0, z1, e⟩ := Alm.DN.is (M := 1) hmd.sub1 h1 h2 (by omega)
  rw [e]
  refine .of ?_ ?_ (by omega)
  ·unfold Sz; omega
  ·unfold Sz; omega
 have cc1 := fun {W : World} (_ : Ext w0 W) => c_pickL (w := W) (c := nm) (n := 8) hnm (by decide)
 have cc2 := fun {W : World} (_ : Ext w0 W) => c_pickL (w := W) (c := c) (n := 4) hc (by decide)
 have cc3 := fun {W : World} (_ : Ext w0 W) => c_pickL (w := W) (c := b) (n := 20) hb (by decide)
 have cc4 : ∀ {W : World}, Ext w0 W → Calls Tryz.prog 30 #[.int .i64 1, .int .i64 (2 + pickZ c 4)] W (Ret fun r w' => Ext W w' ∧ r = vR (tx m)) := fun {W} e => by
  have := c_of (w := W) (n := 1) (d := d) (hE.hT.ext e) (by decide) (by omega) (by omega)
  rw [hm, ← hd] at this
  exact this
 have cc5 : ∀ {W : World}, Ext w0 W → Calls Tryz.prog 30 #[.int .i64 1, .int .i64 1] W (Ret fun r w' => Ext W w' ∧ r = vR (tx (xL true))) := fun {W} e => by
  have := c_of (w := W) (n := 1) (d := 1) (hE.hT.ext e) (by decide) (by decide) (by decide)
  rw [q_div1] at this
  exact this
 have c0 : ∀ {W : World}, Ext w0 W → Calls Tryz.prog 30 #[.int .i64 0, .int .i64 1] W (Ret fun r w' => Ext W w' ∧ r = vR (tx (xL false))) := fun {W} e => by
  have := c_of (w := W) (n := 0) (d := 1) (hE.hT.ext e) (by decide) (by decide) (by decide)
  rw [q_div1] at this
  exact this
 have cc6 : ∀ {W : World}, Ext w0 W → Calls Tryz.prog 31 #[vR (tx (xL true)), vR (tx m)] W (Ret fun r w' => Ext W w' ∧ r = .tuple #[vR (tx (1 - m)), .int .i64 0]) := fun {W} e => k_sub (w := W) (k := 5) (xL_SR true) hms (by decide) (by decide) (by decide) (by decide) (hE.hT.ext e)
 have cc7 : ∀ {W : World}, Ext w0 W → Calls Tryz.prog 30 #[.int .i64 (1 + pickZ b 20), .int .i64 20] W (Ret fun r w' => Ext W w' ∧ r = vR (tx (bud b))) := fun {W} e => c_of (w := W) (hE.hT.ext e) (by omega) (by decide) (by decide)
 have cc8 := fun {W : World} (e : Ext w0 W) => c_OpenB (w0 := W) (b := b) (hE.ext e)
 have hV0 := bud_VB b
 have hBS := bud_Sm b
 obtain ⟨B, hB⟩ : ∃ B, bud b = B := ⟨_, rfl⟩
 rw [hB] at hV0 hBS cc7 cc8
 rw [hnn] at cc1
 clear hB hm
 apply e_law28_AlarmFalse
 apply u_law28_AlarmFalse
 unfold s_law28_AlarmFalse_0
 have h := Hp.init [] w0
 refine cl1 h n_law28_sane (ccs h.ext) fun w h => ?_
 refine Un_T (If_F (cl1 h n_law28_pick (cc1 h.ext) fun w h => ?_))
 refine cl1 h n_law28_pick (cc2 h.ext) fun w h => ?_
 refine Bn_ad (by omega) (by omega) (cl1 h n_law28_of (cc4 h.ext) fun w h => ?_)
 refine alS h fun g1 w h => ?_
 refine stA h 0 rfl rfl rfl rfl fun w h => ?_
 dsimp only [List.set] at h
 refine Jn2.lfb tR (fR (tx (1 - m))) (.int .i64 0) h (fun K lf1 => ?_) (fun gx w h => ?_)
 ·replace h := h.dr
  refine dlA h 0 rfl rfl ?_
  refine ⟨?_, ?_⟩
  refine cl1 h n_law28_of (cc5 h.ext) fun w h => ?_
  refine klA h 0 rfl rfl ?_
  refine ⟨?_, ?_⟩
  refine cl1 h n_rational_Sub (cc6 h.ext) fun w h => ?_
  refine ExP2 (alS h fun g2 w h => ?_)
  refine klA h 1 rfl rfl ?_
  refine stA h 0 rfl rfl rfl rfl fun w h => ?_
  exact lf1 _ _ h
  refine alS h fun g2 w h => ?_
  refine klA h 1 rfl rfl ?_
  refine cl1 h n_rational_Sub (cc6 h.ext) fun w h => ?_
  refine ExP2 (stA h 0 rfl rfl rfl rfl fun w h => ?_)
  exact lf1 _ _ h
  refine alS h fun g2 w h => ?_
  refine klA h 1 rfl rfl ?_
  refine cl1 h n_law28_of (cc5 h.ext) fun w h => ?_
  refine klA h 1 rfl rfl ?_
  refine cl1 h n_rational_Sub (cc6 h.ext) fun w h => ?_
  refine ExP2 (stA h 0 rfl rfl rfl rfl fun w h => ?_)
  exact lf1 _ _ h
 clear cc5 cc6
 refine cl1 h n_law28_pick (cc3 h.ext) fun w h => ?_
 refine Bn_ad (by omega) (by omega) (cl1 h n_law28_of (cc7 h.ext) fun w h => ?_)
 refine alS h fun g2 w h => ?_
 refine stA h 0 rfl rfl rfl rfl fun w h => ?_
 refine ldA h 0 rfl rfl ?_
 refine cl1 h n_alarm_Open (cc8 h.ext) fun w h => ?_
 refine Ex2 (alS h fun g3 w h => ?_)
 refine stA h 0 rfl rfl rfl rfl fun w h => ?_
 refine Bn_neF (by omega) (Gd_F (Gd_F (Bn_neF (by omega) (Pick_F (If_F ?_)))))
 dsimp only [List.set] at h
 have e1 := h.ext
 have b10 : Blk w g1 tR (fR (tx m)) := h.get (i := 3) rfl
 have b11 : Blk w gx tR (fR (tx (1 - m))) := h.get (i := 2) rfl
 have b13 : Blk w g2 tR (fR (tx B)) := h.get (i := 1) rfl
 have b14 : Blk w g3 tAl [str (tx B).1, str (tx B).2, .slice none 0 0] := h.get (i := 0) rfl
 have s3 := s3.ext e1
 have hE := hE.ext e1
 have cc0 := fun {W : World} (e : Ext w W) => c0 (e1.tr e)
 have hR : ∀ W, Ext w W → Ret (fun r w' => Ext w0 w' ∧ r = .bool true) (.returned (.bool true)) W := fun W e => Ret.mk ⟨e1.tr e, rfl⟩
 clear h c0 cc1 cc2 cc3 cc4 cc7 cc8 ccs
 obtain ⟨w1, rfl⟩ : ∃ x, x = w := ⟨_, rfl⟩
 have h := Hp.init [] w1
 refine cl1 h n_law28_of (cc0 h.ext) fun w h => ?_
 refine alS h fun g4 w h => ?_
 refine stA h 0 rfl rfl rfl rfl fun w h => ?_
 dsimp only [List.set] at h
 have hsd : ∀ k : Nat, 0 ≤ sumS m (fun y => (runS m mkb (stepsF B pl) 0 [] 0 false y).2) nn k ∧ sumS m (fun y => (runS m mkb (stepsF B pl) 0 [] 0 false y).2) nn k ≤ ((k : Int) : Rat) ∧ DN (d ^ nn) (sumS m (fun y => (runS m mkb (stepsF B pl) 0 [] 0 false y).2) nn k) := fun k => Alm.sum_bd hm0 hm1 (n := nn) hmd (fun y => (runS m mkb (stepsF B pl) 0 [] 0 false y).2) k
 have hle := sumS_le hm0 hm1 hBS.ge pl nn
 have hRBB := Sm.rb hBS (.inl rfl)
 have hp2 := pow_bd (d := 2) (n := nn) (by decide) hn7
 have h128 : 2 ^ nn ≤ 128 := by
  have h2 := Nat.pow_le_pow_right (show 0 < 2 by decide) hn7
  have : 2 ^ 7 = 128 := by decide
  omega
 have e0 : sumS m (fun y => (runS m mkb (stepsF B pl) 0 [] 0 false y).2) nn 0 = xL false := rfl
 replace h : Hp [] w1 w [bx g4 tR (fR (tx (sumS m (fun y => (runS m mkb (stepsF B pl) 0 [] 0 false y).2) nn 0)))] := by rw [e0]; exact h
 clear e0 cc0
 have hf1 := fun {R : Ending → World → Prop} {k2 : Value → World → Prop} {W : World} {k : Nat} (hk : k < 2 ^ nn) (hk2 : ∀ {W' : World}, Hp [] w1 W' [bx g4 tR (fR (tx (sumS m (fun y => (runS m mkb (stepsF B pl) 0 [] 0 false y).2) nn (k + 1))))] → k2 (.int .i64 ((k : Int) + 1)) W')
  (h : Hp [] w1 W [bx g4 tR (fR (tx (sumS m (fun y => (runS m mkb (stepsF B pl) 0 [] 0 false y).2) nn k)))]) => fa_1 (R := R) hE (by omega) hmd hm0 hm1 hms hns b10 b11 b13 b14 s3 hpl n3 hV0 hn7 rfl hk hk2 h
 obtain ⟨F, hF⟩ : ∃ F : List Bool → Bool, (fun y => (runS m mkb (stepsF B pl) 0 [] 0 false y).2) = F := ⟨_, rfl⟩
 rw [hF] at h hsd hle
 simp only [hF] at hf1
 obtain ⟨N, hN⟩ : ∃ N, 2 ^ nn = N := ⟨_, rfl⟩
 rw [hN] at h128 hp2 hle
 simp only [hN] at hf1
 clear hF
 refine Lp1.mk (fun p W => ∃ k : Nat, k ≤ N ∧ p = .int .i64 k ∧ Hp [] w1 W [bx g4 tR (fR (tx (sumS m F nn k)))]) (fun p _ => match p with | .int _ x => N - x.toNat | _ => 0) ⟨0, by omega, rfl, h⟩ ?_
 clear h
 rintro _ W ⟨k, hk, rfl, h⟩
 by_cases hkN : k < N
 ·exact hf1 hkN (fun {W'} h' => ⟨⟨k + 1, by omega, rfl, h'⟩, by show N - ((k : Int) + 1).toNat < N - (k : Int).toNat; omega⟩) h
 ·clear hf1
  have hke : k = N := by omega
  subst hke
  have sb := hsd k
  have hsr : SR 8 5 (sumS m F nn k) := DN_SR sb.2.2 sb.1 sb.2.1 (by omega) (by omega) hn7
  have hcm := (cmp_le (sumS m F nn k) B).2 hle
  have hRBS : RB (sumS m F nn k) := hsr.rb (by decide) (by decide)
  have cc9 := fun {W : World} (e : Ext w1 W) => k_cmp (w := W) hRBS hRBB (hE.hT.ext e)
  clear hsd sb hsr hle
  unfold s_law28_AlarmFalse_1
  refine Bn_slA (by omega) hN ?_
  clear hN
  refine Bn_ltF (by omega) (If_F (ldA h 0 rfl rfl ?_))
  unfold s_law28_AlarmFalse_11
  refine lgA h ‹_› (by rfl) ?_
  refine cl1 h n_rational_Compare (cc9 h.ext) fun w h => ?_
  refine Bn_leT (by omega) ?_
  exact hR _ h.ext
end
end Go.Proofs.YtnkmbjedcjcccaaGreatDoor
