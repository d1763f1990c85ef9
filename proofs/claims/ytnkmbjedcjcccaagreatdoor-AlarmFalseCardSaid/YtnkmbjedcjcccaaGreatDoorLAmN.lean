/-
  Contracts and plain lemmas. By an AI agent.
-/
import Derived.Test.YtnkmbjedcjcccaaGreatDoorEng
import Derived.Test.YtnkmbjedcjcccaaGreatDoorProg
set_option linter.unusedSimpArgs false
set_option linter.unusedVariables false
set_option linter.unusedSectionVars false
namespace Go.Proofs.YtnkmbjedcjcccaaGreatDoor
open Go Go.Eng Go.Shelf
set_option maxRecDepth 100000
variable {t0 t1 t2 t3 : Value} {w : World} {R : Ending → World → Prop}
def s_law28_AlarmFalse (P : Program) (t0 t1 t2 t3 : Value) (w : World) (R : Ending → World → Prop) : Prop :=
 Cl P 9 #[] w (Pk R) fun t45 w =>
 Un P .not t45 w fun t46 w =>
 If t46
 (R (.returned (.bool false)) w)
 (Cl P 27 #[t2, (.int .i64 8)] w (Pk R) fun t48 w =>
 Cl P 27 #[t1, (.int .i64 4)] w (Pk R) fun t50 w =>
 Bn P .add 3 true (.int .i64 2) t50 w fun t51 w =>
 Cl P 30 #[(.int .i64 1), t51] w (Pk R) fun t52 w =>
 Al P 25 w fun t10 w =>
 Sto P 25 t10 t52 w fun w =>
 Jn2 (fun k1 =>
 dL P 25 t10 w.drew fun t55 =>
 (Cl P 30 #[(.int .i64 1), (.int .i64 1)] w.drew (Pk R) fun t54 w =>
 kLd P 25 t10 t55 w <|
 (Cl P 31 #[t54, t55] w (Pk R) fun t56 w =>
 ExP t56 0 fun t57 =>
 ExP t56 1 fun t58 =>
 Al P 25 w fun t11 w =>
 kLd P 25 t10 t55 w <|
 Sto P 25 t11 t57 w fun w =>
 k1 t11 t58 w) ∧
 (Al P 25 w fun t11x1 w =>
 kLd P 25 t10 t55 w <|
 Cl P 31 #[t54, t55] w (Pk R) fun t56x1 w =>
 ExP t56x1 0 fun t57x1 =>
 ExP t56x1 1 fun t58x1 =>
 Sto P 25 t11x1 t57x1 w fun w =>
 k1 t11x1 t58x1 w)) ∧
 (Al P 25 w.drew fun t11x2 w =>
 kLd P 25 t10 t55 w <|
 Cl P 30 #[(.int .i64 1), (.int .i64 1)] w (Pk R) fun t54x1 w =>
 kLd P 25 t10 t55 w <|
 Cl P 31 #[t54x1, t55] w (Pk R) fun t56x2 w =>
 ExP t56x2 0 fun t57x2 =>
 ExP t56x2 1 fun t58x2 =>
 Sto P 25 t11x2 t57x2 w fun w =>
 k1 t11x2 t58x2 w))
 (fun t11x3 t12 w =>
 Cl P 27 #[t0, (.int .i64 20)] w (Pk R) fun t60 w =>
 Bn P .add 3 true (.int .i64 1) t60 w fun t61 w =>
 Cl P 30 #[t61, (.int .i64 20)] w (Pk R) fun t62 w =>
 Al P 25 w fun t13 w =>
 Sto P 25 t13 t62 w fun w =>
 Ld P 25 t13 w fun t64 w =>
 Cl P 17 #[t64] w (Pk R) fun t65 w =>
 Ex t65 0 w fun t66 w =>
 Ex t65 1 w fun t67 w =>
 Al P 28 w fun t14 w =>
 Sto P 28 t14 t66 w fun w =>
 Bn P .neq 46 true t12 (.int .i64 0) w fun t69 w =>
 Gd t69 false (fun k => k t67 w) w fun t71 w =>
 Gd t69 false (fun k => Bn P .neq 46 true t71 (.int .i64 0) w k) w fun t72 w =>
 Pick t69 (.bool true) t72 w fun t73 w =>
 If t73
 (R (.returned (.bool false)) w)
 (Cl P 30 #[(.int .i64 0), (.int .i64 1)] w (Pk R) fun t74 w =>
 Al P 25 w fun t16 w =>
 Sto P 25 t16 t74 w fun w =>
 Lp1 (.int .i64 0) w (fun t17 w k2 =>
 Bn P .shl 3 true (.int .i64 1) t48 w fun t77 w =>
 Bn P .lss 3 false t17 t77 w fun t78 w =>
 If t78
 (Cl P 30 #[(.int .i64 1), (.int .i64 1)] w (Pk R) fun t81 w =>
 Al P 25 w fun t18 w =>
 Sto P 25 t18 t81 w fun w =>
 Lp2 (.slice none 0 0) (.int .i64 0) w (fun t19 t20 w k3 =>
 Bn P .lss 3 false t20 t48 w fun t84 w =>
 If t84
 (Ld P 25 t11x3 w fun t87 w =>
 Al P 25 w fun t21 w =>
 Sto P 25 t21 t87 w fun w =>
 Jn1 (fun k4 =>
 Bn P .shr 3 false t17 t20 w fun t90 w =>
 Bn P .rem 3 true t90 (.int .i64 2) w fun t91 w =>
 Bn P .eql 3 true t91 (.int .i64 1) w fun t92 w =>
 If t92
 (Ld P 25 t10 w fun t93 w =>
 Sto P 25 t21 t93 w fun w =>
 k4 (.int .i64 100) w)
 (k4 (.int .i64 0) w))
 (fun t22 w =>
 Ld P 25 t18 w fun t95 w =>
 Ld P 25 t21 w fun t96 w =>
 Cl P 32 #[t95, t96] w (Pk R) fun t97 w =>
 Ex t97 0 w fun t98 w =>
 Ex t97 1 w fun t99 w =>
 Al P 25 w fun t23 w =>
 Sto P 25 t23 t98 w fun w =>
 Bn P .neq 46 true t99 (.int .i64 0) w fun t101 w =>
 If t101
 (R (.returned (.bool false)) w)
 (Ld P 25 t23 w fun t102 w =>
 Sto P 25 t18 t102 w fun w =>
 Cl P 33 #[t20, t22, t22] w (Pk R) fun t107 w =>
 Bs P 31 1 [(0, t107)] w fun t108 w =>
 Bt P .append #[31, 31] 31 #[t19, t108] w fun t109 w =>
 Bn P .add 3 true t20 (.int .i64 1) w fun t86 w =>
 k3 t109 t86 w)))
 (Ld P 28 t14 w fun t110 w =>
 Al P 28 w fun t25 w =>
 Sto P 28 t25 t110 w fun w =>
 Lp4 (.int .i64 0) (.int .i64 0) (.bool false) (.int .i64 0) w (fun t26 t27 t28 t29 w k5 =>
 Bt P .len #[61] 3 #[t3] w fun t113 w =>
 Bn P .lss 3 false t29 t113 w fun t114 w =>
 Gd t114 true (fun k => k t29 w) w fun t116 w =>
 Gd t114 true (fun k => Bn P .lss 3 true t116 (.int .i64 5) w k) w fun t117 w =>
 Pick t114 t117 (.bool false) w fun t118 w =>
 If t118
 (Ia P 61 t3 t29 w fun t125 w =>
 Fa P 68 t125 0 w fun t126 w =>
 Ld P 3 t126 w fun t127 w =>
 Cl P 27 #[t127, (.int .i64 4)] w (Pk R) fun t128 w =>
 Bn P .add 3 false t26 t128 w fun t129 w =>
 Bt P .min #[3, 3] 3 #[t48, t129] w fun t130 w =>
 Jn3 (fun k6 =>
 dL P 28 t25 w.drew fun t132 =>
 Dv P true (Instr.sliceAt 31 t19 (some t26) (some t130) none) w.drew fun t136 =>
 (Cl P 24 #[t132, t136] w.drew (Pk R) fun t137 w =>
 ExP t137 0 fun t138 =>
 ExP t137 1 fun t139 =>
 ExP t137 2 fun t140 =>
 Al P 28 w fun t31 w =>
 kLd P 28 t25 t132 w <|
 Sto P 28 t31 t138 w fun w =>
 k6 t31 t139 t140 w) ∧
 (Al P 28 w.drew fun t31x1 w =>
 kLd P 28 t25 t132 w <|
 Cl P 24 #[t132, t136] w (Pk R) fun t137x1 w =>
 ExP t137x1 0 fun t138x1 =>
 ExP t137x1 1 fun t139x1 =>
 ExP t137x1 2 fun t140x1 =>
 Sto P 28 t31x1 t138x1 w fun w =>
 k6 t31x1 t139x1 t140x1 w))
 (fun t31x2 t32 t33 w =>
 Bn P .neq 46 true t33 (.int .i64 0) w fun t142 w =>
 If t142
 (R (.returned (.bool false)) w)
 (Ld P 28 t31x2 w fun t143 w =>
 Sto P 28 t25 t143 w fun w =>
 Lp2 t28 (.int .i64 0) w (fun t28x1 t34 w k7 =>
 Bt P .len #[33] 3 #[t32] w fun t147 w =>
 Bn P .lss 3 false t34 t147 w fun t148 w =>
 If t148
 (dIx P 33 t32 t34 w.drew fun t153 =>
 dL P 3 t153 w.drew fun t154 =>
 Dv P true (bn .lss 3 true t154 (.int .i64 0)) w.drew fun t155 =>
 GdP t155 false (fun k => k t32) fun t157 =>
 GdP t155 false (fun k => k t34) fun t158 =>
 GdP t155 false (fun k => dIx P 33 t157 t158 w.drew k) fun t159 =>
 GdP t155 false (fun k => dL P 3 t159 w.drew k) fun t160 =>
 GdP t155 false (fun k => dFl P 28 t25 1 w.drew k) fun t161 =>
 GdP t155 false (fun k => dL P 26 t161 w.drew k) fun t162 =>
 GdP t155 false (fun k => Dv P true (bV .len #[26] 3 #[t162]) w.drew k) fun t163 =>
 GdP t155 false (fun k => Dv P true (bn .geq 3 false t160 t163) w.drew k) fun t164 =>
 PickP t155 (.bool true) t164 fun t165 =>
 If t165
 (R (.returned (.bool false)) w.drew)
 (GdP t28x1 false (fun k => Dv P true (Instr.fieldAt 28 t25 1) w.drew.drew k) fun t168 =>
 GdP t28x1 false (fun k => Dv P false (Instr.loadAt 26 t168) w.drew.drew k) fun t169 =>
 GdP t28x1 false (fun k => k t32) fun t170 =>
 GdP t28x1 false (fun k => k t34) fun t171 =>
 GdP t28x1 false (fun k => Dv P true (Instr.indexAt 33 t170 t171) w.drew.drew k) fun t172 =>
 GdP t28x1 false (fun k => Dv P false (Instr.loadAt 3 t172) w.drew.drew k) fun t173 =>
 GdP t28x1 false (fun k => Dv P true (Instr.indexAt 26 t169 t173) w.drew.drew k) fun t174 =>
 GdP t28x1 false (fun k => Dv P true (Instr.fieldAt 30 t174 3) w.drew.drew k) fun t175 =>
 GdP t28x1 false (fun k => Dv P false (Instr.loadAt 25 t175) w.drew.drew k) fun t176 =>
 GdP t28x1 false (fun k => Dv P false (Instr.loadAt 25 t10) w.drew.drew k) fun t177 =>
 Gd t28x1 false (fun k => Cl P 34 #[t176, t177] w.drew.drew (Pk R) k) w.drew.drew fun t178 w =>
 GdP t28x1 false (fun k => Dv P true (bn .geq 3 true t178 (.int .i64 0)) w k) fun t179 =>
 PickP t28x1 (.bool true) t179 fun t180 =>
 Bn P .add 3 true t34 (.int .i64 1) w fun t150 w =>
 k7 t180 t150 w))
 (Bt P .len #[33] 3 #[t32] w fun t183 w =>
 Bn P .add 3 false t27 t183 w fun t184 w =>
 Ia P 61 t3 t29 w fun t187 w =>
 Fa P 68 t187 3 w fun t188 w =>
 Ld P 4 t188 w fun t189 w =>
 Gd t189 true (fun k => k t184 w) w fun t191 w =>
 Gd t189 true (fun k => Bn P .gtr 3 true t191 (.int .i64 0) w k) w fun t192 w =>
 Pick t189 t192 (.bool false) w fun t193 w =>
 If t193
 (Bn P .add 3 true t29 (.int .i64 1) w fun t120 w =>
 k5 t130 t184 t28x1 t120 w)
 (Ia P 61 t3 t29 w fun t196 w =>
 Fa P 68 t196 1 w fun t197 w =>
 Ld P 39 t197 w fun t198 w =>
 Al P 39 w fun t35 w =>
 Sto P 39 t35 t198 w fun w =>
 Dv P true (Instr.indexAt 39 t35 (.int .i64 3)) w.drew fun t199 =>
 dL P 3 t199 w.drew fun t200 =>
 dIx P 61 t3 t29 w.drew fun t204 =>
 dFl P 68 t204 2 w.drew fun t205 =>
 dL P 3 t205 w.drew fun t206 =>
 Cl P 27 #[t206, (.int .i64 6)] w.drew (Pk R) fun t207 w =>
 kLd P 3 t199 t200 w <|
 Dv P true (bn .mul 3 false t184 t207) w fun t208 =>
 Dv P true (bn .add 3 false t200 t208) w fun t209 =>
 Dv P true (Instr.indexAt 39 t35 (.int .i64 3)) w fun t210 =>
 Sto P 3 t210 t209 w fun w =>
 Dv P true (Instr.indexAt 39 t35 (.int .i64 4)) w.drew fun t211 =>
 dL P 3 t211 w.drew fun t212 =>
 dIx P 61 t3 t29 w.drew fun t216 =>
 dFl P 68 t216 2 w.drew fun t217 =>
 dL P 3 t217 w.drew fun t218 =>
 Cl P 27 #[t218, (.int .i64 5)] w.drew (Pk R) fun t219 w =>
 kLd P 3 t211 t212 w <|
 Dv P true (bn .mul 3 false t184 t219) w fun t220 =>
 Dv P true (bn .add 3 false t212 t220) w fun t221 =>
 Dv P true (Instr.indexAt 39 t35 (.int .i64 4)) w fun t222 =>
 Sto P 3 t222 t221 w fun w =>
 Ld P 39 t35 w fun t223 w =>
 Cl P 21 #[t223] w (Pk R) fun t224 w =>
 Al P 30 w fun t36 w =>
 Sto P 30 t36 t224 w fun w =>
 Fa P 30 t36 0 w fun t225 w =>
 Sto P 3 t225 (.int .i64 1) w fun w =>
 Fa P 30 t36 1 w fun t226 w =>
 Sto P 3 t226 (.int .i64 2) w fun w =>
 Fa P 30 t36 2 w fun t227 w =>
 Sto P 3 t227 (.int .i64 50) w fun w =>
 Ld P 28 t25 w fun t229 w =>
 Ld P 30 t36 w fun t230 w =>
 Cl P 22 #[t229, t230] w (Pk R) fun t231 w =>
 Ex t231 0 w fun t232 w =>
 Ex t231 1 w fun t233 w =>
 Al P 28 w fun t37 w =>
 Sto P 28 t37 t232 w fun w =>
 Bn P .neq 46 true t233 (.int .i64 0) w fun t235 w =>
 If t235
 (Bn P .add 3 true t29 (.int .i64 1) w fun t120x1 w =>
 k5 t130 t184 t28x1 t120x1 w)
 (Ld P 28 t37 w fun t236 w =>
 Sto P 28 t25 t236 w fun w =>
 Bn P .add 3 true t29 (.int .i64 1) w fun t120x2 w =>
 k5 t130 t184 t28x1 t120x2 w)))))))
 (Jn2 (fun k8 =>
 dL P 28 t25 w.drew fun t238 =>
 Dv P true (Instr.sliceAt 31 t19 (some t26) none none) w.drew fun t241 =>
 (Cl P 24 #[t238, t241] w.drew (Pk R) fun t242 w =>
 ExP t242 0 fun t243 =>
 ExP t242 1 fun t244 =>
 ExP t242 2 fun t245 =>
 Al P 28 w fun t39 w =>
 kLd P 28 t25 t238 w <|
 Sto P 28 t39 t243 w fun w =>
 k8 t244 t245 w) ∧
 (Al P 28 w.drew fun t39x1 w =>
 kLd P 28 t25 t238 w <|
 Cl P 24 #[t238, t241] w (Pk R) fun t242x1 w =>
 ExP t242x1 0 fun t243x1 =>
 ExP t242x1 1 fun t244x1 =>
 ExP t242x1 2 fun t245x1 =>
 Sto P 28 t39x1 t243x1 w fun w =>
 k8 t244x1 t245x1 w))
 (fun t40 t41 w =>
 Bn P .neq 46 true t41 (.int .i64 0) w fun t247 w =>
 If t247
 (R (.returned (.bool false)) w)
 (Lp2 t28 (.int .i64 0) w (fun t28x2 t42 w k9 =>
 Bt P .len #[33] 3 #[t40] w fun t250 w =>
 Bn P .lss 3 false t42 t250 w fun t251 w =>
 If t251
 (dIx P 33 t40 t42 w.drew fun t256 =>
 dL P 3 t256 w.drew fun t257 =>
 Dv P true (bn .lss 3 true t257 (.int .i64 0)) w.drew fun t258 =>
 GdP t258 false (fun k => k t40) fun t260 =>
 GdP t258 false (fun k => k t42) fun t261 =>
 GdP t258 false (fun k => dIx P 33 t260 t261 w.drew k) fun t262 =>
 GdP t258 false (fun k => dL P 3 t262 w.drew k) fun t263 =>
 GdP t258 false (fun k => dFl P 28 t25 1 w.drew k) fun t264 =>
 GdP t258 false (fun k => dL P 26 t264 w.drew k) fun t265 =>
 GdP t258 false (fun k => Dv P true (bV .len #[26] 3 #[t265]) w.drew k) fun t266 =>
 GdP t258 false (fun k => Dv P true (bn .geq 3 false t263 t266) w.drew k) fun t267 =>
 PickP t258 (.bool true) t267 fun t268 =>
 If t268
 (R (.returned (.bool false)) w.drew)
 (GdP t28x2 false (fun k => Dv P true (Instr.fieldAt 28 t25 1) w.drew.drew k) fun t271 =>
 GdP t28x2 false (fun k => Dv P false (Instr.loadAt 26 t271) w.drew.drew k) fun t272 =>
 GdP t28x2 false (fun k => k t40) fun t273 =>
 GdP t28x2 false (fun k => k t42) fun t274 =>
 GdP t28x2 false (fun k => Dv P true (Instr.indexAt 33 t273 t274) w.drew.drew k) fun t275 =>
 GdP t28x2 false (fun k => Dv P false (Instr.loadAt 3 t275) w.drew.drew k) fun t276 =>
 GdP t28x2 false (fun k => Dv P true (Instr.indexAt 26 t272 t276) w.drew.drew k) fun t277 =>
 GdP t28x2 false (fun k => Dv P true (Instr.fieldAt 30 t277 3) w.drew.drew k) fun t278 =>
 GdP t28x2 false (fun k => Dv P false (Instr.loadAt 25 t278) w.drew.drew k) fun t279 =>
 GdP t28x2 false (fun k => Dv P false (Instr.loadAt 25 t10) w.drew.drew k) fun t280 =>
 Gd t28x2 false (fun k => Cl P 34 #[t279, t280] w.drew.drew (Pk R) k) w.drew.drew fun t281 w =>
 GdP t28x2 false (fun k => Dv P true (bn .geq 3 true t281 (.int .i64 0)) w k) fun t282 =>
 PickP t28x2 (.bool true) t282 fun t283 =>
 Bn P .add 3 true t42 (.int .i64 1) w fun t253 w =>
 k9 t283 t253 w))
 (If t28x2
 (Ld P 25 t16 w fun t286 w =>
 Ld P 25 t18 w fun t287 w =>
 Cl P 35 #[t286, t287] w (Pk R) fun t288 w =>
 Ex t288 0 w fun t289 w =>
 Ex t288 1 w fun t290 w =>
 Al P 25 w fun t43 w =>
 Sto P 25 t43 t289 w fun w =>
 Bn P .neq 46 true t290 (.int .i64 0) w fun t292 w =>
 If t292
 (R (.returned (.bool false)) w)
 (Ld P 25 t43 w fun t293 w =>
 Sto P 25 t16 t293 w fun w =>
 Bn P .add 3 true t17 (.int .i64 1) w fun t80 w =>
 k2 t80 w))
 (Bn P .add 3 true t17 (.int .i64 1) w fun t80x1 w =>
 k2 t80x1 w))))))))))
 (Ld P 25 t16 w fun t294 w =>
 Ld P 25 t13 w fun t295 w =>
 Cl P 34 #[t294, t295] w (Pk R) fun t296 w =>
 Bn P .leq 3 true t296 (.int .i64 0) w fun t297 w =>
 R (.returned t297) w)))))
theorem e_law28_AlarmFalse (h : s_law28_AlarmFalse Tryz.prog t0 t1 t2 t3 w R) : Calls Tryz.prog 4 #[t0, t1, t2, t3] w R :=
 en1 (.sq .z (.sq (.sq .z (.cd (.sq .z .z) .z)) (.sq .z (.sq .z (.jn [11, 12] [53, 54, 55, 56, 57, 58] (.dr (.pur false 1 (.alt (.eff 0 [1] (.alt (.eff 2 [] (.pur true 3 (.pur true 4 (.pur true 5 (.eff 6 [1] (.eff 7 [] (.pur true 8 .done))))))) (.eff 6 [1] (.eff 2 [] (.pur true 3 (.pur true 4 (.pur true 5 (.eff 7 [] (.pur true 8 .done))))))))) (.eff 6 [1] (.eff 0 [1] (.eff 2 [] (.pur true 3 (.pur true 4 (.pur true 5 (.eff 7 [] (.pur true 8 .done))))))))))) (.sq .z (.sq .z (.sq (.sq .z (.cd (.sq .z .z) .z)) (.sq .z (.sq (.sq .z (.bk (.lp [17] [8, 18, 19, 20, 21, 22, 23, 24, 25, 26, 27, 28, 29, 30, 31, 32, 33, 34, 35, 36, 37, 38, 39, 40, 41, 42, 43, 44, 75, 76, 77, 78, 79, 80, 81, 82, 83, 84, 85, 86, 87, 88, 89, 90, 91, 92, 93, 94, 95, 96, 97, 98, 99, 100, 101, 102, 103, 104, 105, 106, 107, 108, 109, 110, 111, 112, 113, 114, 115, 116, 117, 118, 119, 120, 121, 122, 123, 124, 125, 126, 127, 128, 129, 130, 131, 132, 133, 134, 135, 136, 137, 138, 139, 140, 141, 142, 143, 144, 145, 146, 147, 148, 149, 150, 151, 152, 153, 154, 155, 156, 157, 158, 159, 160, 161, 162, 163, 164, 165, 166, 167, 168, 169, 170, 171, 172, 173, 174, 175, 176, 177, 178, 179, 180, 181, 182, 183, 184, 185, 186, 187, 188, 189, 190, 191, 192, 193, 194, 195, 196, 197, 198, 199, 200, 201, 202, 203, 204, 205, 206, 207, 208, 209, 210, 211, 212, 213, 214, 215, 216, 217, 218, 219, 220, 221, 222, 223, 224, 225, 226, 227, 228, 229, 230, 231, 232, 233, 234, 235, 236, 237, 238, 239, 240, 241, 242, 243, 244, 245, 246, 247, 248, 249, 250, 251, 252, 253, 254, 255, 256, 257, 258, 259, 260, 261, 262, 263, 264, 265, 266, 267, 268, 269, 270, 271, 272, 273, 274, 275, 276, 277, 278, 279, 280, 281, 282, 283, 284, 285, 286, 287, 288, 289, 290, 291, 292, 293] (.sq (.sq .z (.cd .z .z)) (.sq (.bk (.sq .z (.sq .z (.sq (.sq .z (.bk (.lp [19, 20] [8, 21, 22, 23, 24, 82, 83, 84, 85, 86, 87, 88, 89, 90, 91, 92, 93, 94, 95, 96, 97, 98, 99, 100, 101, 102, 103, 104, 105, 106, 107, 108, 109] (.sq (.sq .z (.cd .z .z)) (.sq (.bk (.sq .z (.sq .z (.jn [22] [88, 89, 90, 91, 92, 93] (.sq .z (.cd (.sq .z .z) .z)) (.sq .z (.sq (.sq .z (.cd (.sq .z .z) .z)) (.sq .z .z))))))) .z))))) (.sq .z (.sq .z (.sq .z (.sq .z (.sq (.sq .z (.bk (.lp [26, 27, 28, 29] [8, 30, 31, 32, 33, 34, 35, 36, 37, 38, 111, 112, 113, 114, 115, 116, 117, 118, 119, 120, 121, 122, 123, 124, 125, 126, 127, 128, 129, 130, 131, 132, 133, 134, 135, 136, 137, 138, 139, 140, 141, 142, 143, 144, 145, 146, 147, 148, 149, 150, 151, 152, 153, 154, 155, 156, 157, 158, 159, 160, 161, 162, 163, 164, 165, 166, 167, 168, 169, 170, 171, 172, 173, 174, 175, 176, 177, 178, 179, 180, 181, 182, 183, 184, 185, 186, 187, 188, 189, 190, 191, 192, 193, 194, 195, 196, 197, 198, 199, 200, 201, 202, 203, 204, 205, 206, 207, 208, 209, 210, 211, 212, 213, 214, 215, 216, 217, 218, 219, 220, 221, 222, 223, 224, 225, 226, 227, 228, 229, 230, 231, 232, 233, 234, 235, 236] (.sq (.sq .z (.cd .z .z)) (.sq (.bk (.sq .z (.jn [31, 32, 33] [131, 132, 133, 134, 135, 136, 137, 138, 139, 140] (.dr (.pur false 0 (.pur true 1 (.pur true 2 (.pur true 3 (.pur true 4 (.alt (.eff 5 [] (.pur true 6 (.pur true 7 (.pur true 8 (.pur true 9 (.eff 10 [0] (.eff 11 [] (.pur true 12 (.pur true 13 .done))))))))) (.eff 10 [0] (.eff 5 [] (.pur true 6 (.pur true 7 (.pur true 8 (.pur true 9 (.eff 11 [] (.pur true 12 (.pur true 13 .done)))))))))))))))) (.sq (.sq .z (.cd (.sq .z .z) .z)) (.sq .z (.sq .z (.sq (.sq .z (.bk (.lp [28, 34] [8, 145, 146, 147, 148, 149, 150, 151, 152, 153, 154, 155, 156, 157, 158, 159, 160, 161, 162, 163, 164, 165, 166, 167, 168, 169, 170, 171, 172, 173, 174, 175, 176, 177, 178, 179, 180] (.sq (.sq .z (.cd .z .z)) (.sq (.bk (.sq (.sq (.dr (.pur true 0 (.pur true 1 (.pur true 2 (.pur false 3 (.pur true 4 (.pur true 5 (.pur true 6 (.pur true 7 (.pur true 8 (.pur false 9 (.pur true 10 (.pur false 11 (.pur true 12 (.pur true 13 (.pur true 14 .done)))))))))))))))) (.cd (.sq .z .z) .z)) (.dr (.pur true 0 (.pur true 1 (.pur true 2 (.pur false 3 (.pur true 4 (.pur true 5 (.pur true 6 (.pur false 7 (.pur true 8 (.pur true 9 (.pur false 10 (.pur false 11 (.eff 12 [] (.pur true 13 (.pur true 14 (.pur true 15 .done))))))))))))))))))) .z))))) (.sq .z (.sq (.sq .z (.cd .z .z)) (.sq .z (.sq (.dr (.pur true 0 (.pur false 1 (.pur true 2 (.pur true 3 (.pur true 4 (.pur true 5 (.pur true 6 (.pur false 7 (.eff 8 [1] (.pur true 9 (.pur true 10 (.pur true 11 (.eff 12 [] .done)))))))))))))) (.sq (.dr (.pur true 0 (.pur false 1 (.pur true 2 (.pur true 3 (.pur true 4 (.pur true 5 (.pur true 6 (.pur false 7 (.eff 8 [1] (.pur true 9 (.pur true 10 (.pur true 11 (.eff 12 [] .done)))))))))))))) (.sq .z (.sq .z (.sq .z (.sq .z (.sq .z (.sq (.sq .z (.cd .z .z)) .z)))))))))))))))))) .z))))) (.jn [40, 41] [39, 237, 238, 239, 240, 241, 242, 243, 244, 245] (.dr (.pur false 0 (.pur true 1 (.pur true 2 (.pur true 3 (.alt (.eff 4 [] (.pur true 5 (.pur true 6 (.pur true 7 (.pur true 8 (.eff 9 [0] (.eff 10 [] (.pur true 11 (.pur true 12 .done))))))))) (.eff 9 [0] (.eff 4 [] (.pur true 5 (.pur true 6 (.pur true 7 (.pur true 8 (.eff 10 [] (.pur true 11 (.pur true 12 .done))))))))))))))) (.sq (.sq .z (.cd (.sq .z .z) .z)) (.sq (.sq .z (.bk (.lp [28, 42] [8, 248, 249, 250, 251, 252, 253, 254, 255, 256, 257, 258, 259, 260, 261, 262, 263, 264, 265, 266, 267, 268, 269, 270, 271, 272, 273, 274, 275, 276, 277, 278, 279, 280, 281, 282, 283] (.sq (.sq .z (.cd .z .z)) (.sq (.bk (.sq (.sq (.dr (.pur true 0 (.pur true 1 (.pur true 2 (.pur false 3 (.pur true 4 (.pur true 5 (.pur true 6 (.pur true 7 (.pur true 8 (.pur false 9 (.pur true 10 (.pur false 11 (.pur true 12 (.pur true 13 (.pur true 14 .done)))))))))))))))) (.cd (.sq .z .z) .z)) (.dr (.pur true 0 (.pur true 1 (.pur true 2 (.pur false 3 (.pur true 4 (.pur true 5 (.pur true 6 (.pur false 7 (.pur true 8 (.pur true 9 (.pur false 10 (.pur false 11 (.eff 12 [] (.pur true 13 (.pur true 14 (.pur true 15 .done))))))))))))))))))) .z))))) (.sq .z (.cd (.sq .z (.sq (.sq .z (.cd (.sq .z .z) .z)) .z)) .z)))))))))))))) .z))))) (.sq .z .z))))))))))) [t0, t1, t2, t3] Tryz.func4 (by kernel_rfl) (by kernel_rfl) h
end Go.Proofs.YtnkmbjedcjcccaaGreatDoor
