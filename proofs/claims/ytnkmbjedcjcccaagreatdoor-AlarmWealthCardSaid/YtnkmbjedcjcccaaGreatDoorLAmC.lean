/-
  Contracts and plain lemmas. By an AI agent.
-/
import Derived.Test.YtnkmbjedcjcccaaGreatDoorEng
import Derived.Test.YtnkmbjedcjcccaaGreatDoorProg
set_option linter.unusedSimpArgs false
set_option linter.unusedVariables false
set_option linter.unusedSectionVars false
namespace Go.Proofs.YtnkmbjedcjcccaaGreatDoor
open Go Go.Eng Go.Shelf
set_option maxRecDepth 100000
variable {t0 t1 t2 : Value} {w : World} {R : Ending → World → Prop}
def s_law28_AlarmWealth (P : Program) (t0 t1 t2 : Value) (w : World) (R : Ending → World → Prop) : Prop :=
 Bx P 39 t1 w fun t4 w =>
 Cl P 9 #[] w (Pk R) fun t31 w =>
 Un P .not t31 w fun t32 w =>
 If t32
 (R (.returned (.bool false)) w)
 (Ld P 39 t4 w fun t35 w =>
 Bs P 72 1 [(0, t35)] w fun t36 w =>
 Cl P 36 #[t0, t36] w (Pk R) fun t37 w =>
 Ex t37 0 w fun t38 w =>
 Ex t37 1 w fun t39 w =>
 Al P 28 w fun t7 w =>
 Sto P 28 t7 t38 w fun w =>
 Bt P .len #[22] 3 #[t2] w fun t42 w =>
 Bt P .min #[3, 3] 3 #[t42, (.int .i64 20)] w fun t43 w =>
 Sc P 22 t2 none (some t43) none w fun t44 w =>
 Cl P 37 #[(.int .i64 0), t44] w (Pk R) fun t45 w =>
 Ld P 28 t7 w fun t47 w =>
 Cl P 24 #[t47, t45] w (Pk R) fun t49 w =>
 Ex t49 0 w fun t50 w =>
 Ex t49 1 w fun t51 w =>
 Ex t49 2 w fun t52 w =>
 Al P 28 w fun t10 w =>
 Sto P 28 t10 t50 w fun w =>
 Un P .not t39 w fun t54 w =>
 Gd t54 false (fun k => k t52 w) w fun t56 w =>
 Gd t54 false (fun k => Bn P .neq 46 true t56 (.int .i64 0) w k) w fun t57 w =>
 Pick t54 (.bool true) t57 w fun t58 w =>
 Gd t58 false (fun k => Fa P 28 t10 1 w k) w fun t60 w =>
 Gd t58 false (fun k => Ld P 26 t60 w k) w fun t61 w =>
 Gd t58 false (fun k => Bt P .len #[26] 3 #[t61] w k) w fun t62 w =>
 Gd t58 false (fun k => Fa P 28 t7 1 w k) w fun t63 w =>
 Gd t58 false (fun k => Ld P 26 t63 w k) w fun t64 w =>
 Gd t58 false (fun k => Bt P .len #[26] 3 #[t64] w k) w fun t65 w =>
 Gd t58 false (fun k => Bn P .neq 3 false t62 t65 w k) w fun t66 w =>
 Pick t58 (.bool true) t66 w fun t67 w =>
 If t67
 (R (.returned (.bool false)) w)
 (Fa P 28 t7 1 w fun t68 w =>
 Ld P 26 t68 w fun t69 w =>
 Bt P .len #[26] 3 #[t69] w fun t70 w =>
 Bn P .eql 3 true t70 (.int .i64 0) w fun t71 w =>
 If t71
 (R (.returned (.bool true)) w)
 (Fa P 28 t7 1 w fun t72 w =>
 Ld P 26 t72 w fun t73 w =>
 Ia P 26 t73 (.int .i64 0) w fun t74 w =>
 Ld P 30 t74 w fun t75 w =>
 Al P 30 w fun t13 w =>
 Sto P 30 t13 t75 w fun w =>
 Cl P 30 #[(.int .i64 1), (.int .i64 1)] w (Pk R) fun t76 w =>
 Al P 25 w fun t14 w =>
 Sto P 25 t14 t76 w fun w =>
 Lp2 (.int .i64 0) (.int .i64 0) w (fun t15 t16 w k1 =>
 Bt P .len #[31] 3 #[t45] w fun t79 w =>
 Bn P .lss 3 false t16 t79 w fun t80 w =>
 Gd t80 true (fun k => k t15 w) w fun t82 w =>
 Gd t80 true (fun k => Fa P 28 t10 1 w k) w fun t83 w =>
 Gd t80 true (fun k => Ld P 26 t83 w k) w fun t84 w =>
 Gd t80 true (fun k => Ia P 26 t84 (.int .i64 0) w k) w fun t85 w =>
 Gd t80 true (fun k => Fa P 30 t85 8 w k) w fun t86 w =>
 Gd t80 true (fun k => Ld P 3 t86 w k) w fun t87 w =>
 Gd t80 true (fun k => Bn P .lss 3 false t82 t87 w k) w fun t88 w =>
 Pick t80 t88 (.bool false) w fun t89 w =>
 If t89
 (dIx P 31 t45 t16 w.drew fun t94 =>
 dFl P 65 t94 4 w.drew fun t95 =>
 dL P 3 t95 w.drew fun t96 =>
 dFl P 30 t13 0 w.drew fun t97 =>
 dL P 3 t97 w.drew fun t98 =>
 Dv P true (bn .neq 3 false t96 t98) w.drew fun t99 =>
 GdP t99 false (fun k => k t45) fun t101 =>
 GdP t99 false (fun k => k t16) fun t102 =>
 GdP t99 false (fun k => dIx P 31 t101 t102 w.drew k) fun t103 =>
 GdP t99 false (fun k => dFl P 65 t103 3 w.drew k) fun t104 =>
 GdP t99 false (fun k => dL P 3 t104 w.drew k) fun t105 =>
 GdP t99 false (fun k => dFl P 30 t13 1 w.drew k) fun t106 =>
 GdP t99 false (fun k => dL P 3 t106 w.drew k) fun t107 =>
 GdP t99 false (fun k => Dv P true (bn .neq 3 false t105 t107) w.drew k) fun t108 =>
 PickP t99 (.bool true) t108 fun t109 =>
 GdP t109 false (fun k => k t45) fun t111 =>
 GdP t109 false (fun k => k t16) fun t112 =>
 GdP t109 false (fun k => dIx P 31 t111 t112 w.drew k) fun t113 =>
 GdP t109 false (fun k => dFl P 65 t113 0 w.drew k) fun t114 =>
 GdP t109 false (fun k => dL P 3 t114 w.drew k) fun t115 =>
 GdP t109 false (fun k => dFl P 30 t13 6 w.drew k) fun t116 =>
 GdP t109 false (fun k => dL P 3 t116 w.drew k) fun t117 =>
 GdP t109 false (fun k => Dv P true (bn .leq 3 false t115 t117) w.drew k) fun t118 =>
 PickP t109 (.bool true) t118 fun t119 =>
 If t119
 (Bn P .add 3 true t16 (.int .i64 1) w.drew fun t91 w =>
 k1 t15 t91 w)
 (Cl P 30 #[(.int .i64 0), (.int .i64 1)] w.drew (Pk R) fun t120 w =>
 Al P 25 w fun t17 w =>
 Sto P 25 t17 t120 w fun w =>
 Jn0 (fun k2 =>
 dIx P 31 t45 t16 w.drew fun t123 =>
 dFl P 65 t123 7 w.drew fun t124 =>
 dL P 3 t124 w.drew fun t125 =>
 dFl P 30 t13 2 w.drew fun t126 =>
 dL P 3 t126 w.drew fun t127 =>
 Dv P true (bn .gtr 3 false t125 t127) w.drew fun t128 =>
 If t128
 (Cl P 30 #[(.int .i64 1), (.int .i64 1)] w.drew (Pk R) fun t129 w =>
 Sto P 25 t17 t129 w fun w =>
 k2 w)
 (k2 w.drew))
 (fun w =>
 Ld P 25 t17 w fun t131 w =>
 Fa P 30 t13 3 w fun t132 w =>
 Ld P 25 t132 w fun t133 w =>
 Cl P 31 #[t131, t133] w (Pk R) fun t134 w =>
 Ex t134 0 w fun t135 w =>
 Ex t134 1 w fun t136 w =>
 Al P 25 w fun t18 w =>
 Sto P 25 t18 t135 w fun w =>
 Fa P 30 t13 5 w fun t138 w =>
 Ld P 25 t138 w fun t139 w =>
 Ld P 25 t18 w fun t140 w =>
 Cl P 32 #[t139, t140] w (Pk R) fun t141 w =>
 Ex t141 0 w fun t142 w =>
 Ex t141 1 w fun t143 w =>
 Al P 25 w fun t20 w =>
 Sto P 25 t20 t142 w fun w =>
 Jn2 (fun k3 =>
 dL P 25 t20 w.drew fun t146 =>
 (Cl P 30 #[(.int .i64 1), (.int .i64 1)] w.drew (Pk R) fun t145 w =>
 kLd P 25 t20 t146 w <|
 (Cl P 35 #[t145, t146] w (Pk R) fun t147 w =>
 ExP t147 0 fun t148 =>
 ExP t147 1 fun t149 =>
 Al P 25 w fun t22 w =>
 kLd P 25 t20 t146 w <|
 Sto P 25 t22 t148 w fun w =>
 k3 t22 t149 w) ∧
 (Al P 25 w fun t22x1 w =>
 kLd P 25 t20 t146 w <|
 Cl P 35 #[t145, t146] w (Pk R) fun t147x1 w =>
 ExP t147x1 0 fun t148x1 =>
 ExP t147x1 1 fun t149x1 =>
 Sto P 25 t22x1 t148x1 w fun w =>
 k3 t22x1 t149x1 w)) ∧
 (Al P 25 w.drew fun t22x2 w =>
 kLd P 25 t20 t146 w <|
 Cl P 30 #[(.int .i64 1), (.int .i64 1)] w (Pk R) fun t145x1 w =>
 kLd P 25 t20 t146 w <|
 Cl P 35 #[t145x1, t146] w (Pk R) fun t147x2 w =>
 ExP t147x2 0 fun t148x2 =>
 ExP t147x2 1 fun t149x2 =>
 Sto P 25 t22x2 t148x2 w fun w =>
 k3 t22x2 t149x2 w))
 (fun t22x3 t23 w =>
 Ld P 25 t14 w fun t151 w =>
 Ld P 25 t22x3 w fun t152 w =>
 Cl P 32 #[t151, t152] w (Pk R) fun t153 w =>
 Ex t153 0 w fun t154 w =>
 Ex t153 1 w fun t155 w =>
 Al P 25 w fun t24 w =>
 Sto P 25 t24 t154 w fun w =>
 Bn P .neq 46 true t136 (.int .i64 0) w fun t157 w =>
 Gd t157 false (fun k => k t143 w) w fun t159 w =>
 Gd t157 false (fun k => Bn P .neq 46 true t159 (.int .i64 0) w k) w fun t160 w =>
 Pick t157 (.bool true) t160 w fun t161 w =>
 Gd t161 false (fun k => k t23 w) w fun t163 w =>
 Gd t161 false (fun k => Bn P .neq 46 true t163 (.int .i64 0) w k) w fun t164 w =>
 Pick t161 (.bool true) t164 w fun t165 w =>
 Gd t165 false (fun k => k t155 w) w fun t167 w =>
 Gd t165 false (fun k => Bn P .neq 46 true t167 (.int .i64 0) w k) w fun t168 w =>
 Pick t165 (.bool true) t168 w fun t169 w =>
 If t169
 (R (.returned (.bool false)) w)
 (Ld P 25 t24 w fun t170 w =>
 Sto P 25 t14 t170 w fun w =>
 Bn P .add 3 true t15 (.int .i64 1) w fun t172 w =>
 Bn P .add 3 true t16 (.int .i64 1) w fun t91x1 w =>
 k1 t172 t91x1 w)))))
 (Fa P 28 t10 1 w fun t173 w =>
 Ld P 26 t173 w fun t174 w =>
 Ia P 26 t174 (.int .i64 0) w fun t175 w =>
 Ld P 30 t175 w fun t176 w =>
 Al P 30 w fun t26 w =>
 Sto P 30 t26 t176 w fun w =>
 Fa P 30 t26 9 w fun t178 w =>
 Ld P 25 t178 w fun t179 w =>
 Fa P 30 t26 4 w fun t180 w =>
 Ld P 25 t180 w fun t181 w =>
 Cl P 32 #[t179, t181] w (Pk R) fun t182 w =>
 Ex t182 0 w fun t183 w =>
 Ex t182 1 w fun t184 w =>
 Al P 25 w fun t27 w =>
 Sto P 25 t27 t183 w fun w =>
 Lp2 (.int .i64 0) (.int .i64 0) w (fun t29 t30 w k4 =>
 Bt P .len #[31] 3 #[t45] w fun t187 w =>
 Bn P .lss 3 false t30 t187 w fun t188 w =>
 If t188
 (dIx P 31 t45 t30 w.drew fun t193 =>
 dFl P 65 t193 4 w.drew fun t194 =>
 dL P 3 t194 w.drew fun t195 =>
 dFl P 30 t13 0 w.drew fun t196 =>
 dL P 3 t196 w.drew fun t197 =>
 Dv P true (bn .eql 3 false t195 t197) w.drew fun t198 =>
 GdP t198 true (fun k => k t45) fun t200 =>
 GdP t198 true (fun k => k t30) fun t201 =>
 GdP t198 true (fun k => dIx P 31 t200 t201 w.drew k) fun t202 =>
 GdP t198 true (fun k => dFl P 65 t202 3 w.drew k) fun t203 =>
 GdP t198 true (fun k => dL P 3 t203 w.drew k) fun t204 =>
 GdP t198 true (fun k => dFl P 30 t13 1 w.drew k) fun t205 =>
 GdP t198 true (fun k => dL P 3 t205 w.drew k) fun t206 =>
 GdP t198 true (fun k => Dv P true (bn .eql 3 false t204 t206) w.drew k) fun t207 =>
 PickP t198 t207 (.bool false) fun t208 =>
 GdP t208 true (fun k => k t45) fun t210 =>
 GdP t208 true (fun k => k t30) fun t211 =>
 GdP t208 true (fun k => dIx P 31 t210 t211 w.drew k) fun t212 =>
 GdP t208 true (fun k => dFl P 65 t212 0 w.drew k) fun t213 =>
 GdP t208 true (fun k => dL P 3 t213 w.drew k) fun t214 =>
 GdP t208 true (fun k => dFl P 30 t13 6 w.drew k) fun t215 =>
 GdP t208 true (fun k => dL P 3 t215 w.drew k) fun t216 =>
 GdP t208 true (fun k => Dv P true (bn .gtr 3 false t214 t216) w.drew k) fun t217 =>
 PickP t208 t217 (.bool false) fun t218 =>
 If t218
 (Bn P .add 3 true t29 (.int .i64 1) w.drew fun t220 w =>
 Bn P .add 3 true t30 (.int .i64 1) w fun t190 w =>
 k4 t220 t190 w)
 (Bn P .add 3 true t30 (.int .i64 1) w.drew fun t190x1 w =>
 k4 t29 t190x1 w))
 (Dv P true (bn .eql 46 true t184 (.int .i64 0)) w.drew fun t222 =>
 GdP t222 true (fun k => k t15) fun t224 =>
 GdP t222 true (fun k => dFl P 30 t26 8 w.drew k) fun t225 =>
 GdP t222 true (fun k => dL P 3 t225 w.drew k) fun t226 =>
 GdP t222 true (fun k => Dv P true (bn .eql 3 false t224 t226) w.drew k) fun t227 =>
 PickP t222 t227 (.bool false) fun t228 =>
 GdP t228 true (fun k => dFl P 30 t26 9 w.drew k) fun t230 =>
 GdP t228 true (fun k => dL P 25 t230 w.drew k) fun t231 =>
 GdP t228 true (fun k => dL P 25 t14 w.drew k) fun t232 =>
 Gd t228 true (fun k => Cl P 34 #[t231, t232] w.drew (Pk R) k) w.drew fun t233 w =>
 GdP t228 true (fun k => Dv P true (bn .leq 3 true t233 (.int .i64 0)) w k) fun t234 =>
 PickP t228 t234 (.bool false) fun t235 =>
 GdP t235 true (fun k => dFl P 30 t26 9 w k) fun t237 =>
 GdP t235 true (fun k => dL P 25 t237 w k) fun t238 =>
 Gd t235 true (fun k => Cl P 30 #[(.int .i64 0), (.int .i64 1)] w (Pk R) k) w fun t239 w =>
 Kg t235 true P (Instr.loadAt 25 t237) t238 w <|
 Gd t235 true (fun k => Cl P 34 #[t238, t239] w (Pk R) k) w fun t240 w =>
 GdP t235 true (fun k => Dv P true (bn .geq 3 true t240 (.int .i64 0)) w k) fun t241 =>
 PickP t235 t241 (.bool false) fun t242 =>
 GdP t242 true (fun k => dFl P 30 t26 10 w k) fun t244 =>
 GdP t242 true (fun k => dL P 4 t244 w k) fun t245 =>
 GdP t242 true (fun k => dL P 25 t27 w k) fun t246 =>
 Gd t242 true (fun k => Cl P 30 #[(.int .i64 1), (.int .i64 1)] w (Pk R) k) w fun t247 w =>
 Kg t242 true P (Instr.loadAt 4 t244) t245 w <|
 Kg t242 true P (Instr.loadAt 25 t27) t246 w <|
 Gd t242 true (fun k => Cl P 34 #[t246, t247] w (Pk R) k) w fun t248 w =>
 Kg t242 true P (Instr.loadAt 4 t244) t245 w <|
 GdP t242 true (fun k => Dv P true (bn .geq 3 true t248 (.int .i64 0)) w k) fun t249 =>
 GdP t242 true (fun k => Dv P true (bn .eql 4 false t245 t249) w k) fun t250 =>
 PickP t242 t250 (.bool false) fun t251 =>
 GdP t251 true (fun k => dFl P 30 t26 10 w k) fun t253 =>
 GdP t251 true (fun k => dL P 4 t253 w k) fun t254 =>
 GdP t251 true (fun k => k t254) fun t255 =>
 GdP t255 false (fun k => dFl P 30 t26 8 w k) fun t256 =>
 GdP t255 false (fun k => dL P 3 t256 w k) fun t257 =>
 GdP t255 false (fun k => k t29) fun t258 =>
 GdP t255 false (fun k => Dv P true (bn .eql 3 false t257 t258) w k) fun t259 =>
 GdP t251 true (fun k => PickP t255 (.bool true) t259 k) fun t260 =>
 PickP t251 t260 (.bool false) fun t261 =>
 R (.returned t261) w)))))))
theorem e_law28_AlarmWealth (h : s_law28_AlarmWealth Tryz.prog t0 t1 t2 w R) : Calls Tryz.prog 8 #[t0, t1, t2] w R :=
 en1 (.sq .z (.sq (.sq .z (.cd (.sq .z .z) .z)) (.sq .z (.sq .z (.sq .z (.sq (.sq .z (.cd (.sq .z .z) .z)) (.sq (.sq .z (.cd (.sq .z .z) .z)) (.sq .z (.sq .z (.sq .z (.sq (.sq .z (.bk (.lp [15, 16] [6, 17, 18, 19, 20, 21, 22, 23, 24, 25, 77, 78, 79, 80, 81, 82, 83, 84, 85, 86, 87, 88, 89, 90, 91, 92, 93, 94, 95, 96, 97, 98, 99, 100, 101, 102, 103, 104, 105, 106, 107, 108, 109, 110, 111, 112, 113, 114, 115, 116, 117, 118, 119, 120, 121, 122, 123, 124, 125, 126, 127, 128, 129, 130, 131, 132, 133, 134, 135, 136, 137, 138, 139, 140, 141, 142, 143, 144, 145, 146, 147, 148, 149, 150, 151, 152, 153, 154, 155, 156, 157, 158, 159, 160, 161, 162, 163, 164, 165, 166, 167, 168, 169, 170, 171, 172] (.sq (.sq .z (.cd .z .z)) (.sq (.bk (.sq (.sq (.dr (.pur true 0 (.pur true 1 (.pur true 2 (.pur true 3 (.pur false 4 (.pur true 5 (.pur false 6 (.pur true 7 (.pur true 8 (.pur true 9 (.pur true 10 (.pur true 11 (.pur true 12 (.pur false 13 (.pur true 14 (.pur false 15 (.pur true 16 (.pur true 17 (.pur true 18 (.pur true 19 (.pur true 20 (.pur true 21 (.pur true 22 (.pur false 23 (.pur true 24 (.pur false 25 (.pur true 26 (.pur true 27 .done))))))))))))))))))))))))))))) (.cd .z .z)) (.sq .z (.jn [] [121, 122, 123, 124, 125, 126, 127, 128, 129] (.sq (.dr (.pur true 0 (.pur true 1 (.pur true 2 (.pur true 3 (.pur false 4 (.pur true 5 (.pur false 6 (.pur true 7 .done))))))))) (.cd .z .z)) (.sq .z (.sq .z (.jn [22, 23] [144, 145, 146, 147, 148, 149] (.dr (.pur false 1 (.alt (.eff 0 [1] (.alt (.eff 2 [] (.pur true 3 (.pur true 4 (.pur true 5 (.eff 6 [1] (.eff 7 [] (.pur true 8 .done))))))) (.eff 6 [1] (.eff 2 [] (.pur true 3 (.pur true 4 (.pur true 5 (.eff 7 [] (.pur true 8 .done))))))))) (.eff 6 [1] (.eff 0 [1] (.eff 2 [] (.pur true 3 (.pur true 4 (.pur true 5 (.eff 7 [] (.pur true 8 .done))))))))))) (.sq .z (.sq (.sq .z (.cd (.sq .z .z) .z)) (.sq .z .z)))))))))) .z))))) (.sq .z (.sq .z (.sq .z (.sq (.sq .z (.bk (.lp [29, 30] [185, 186, 187, 188, 189, 190, 191, 192, 193, 194, 195, 196, 197, 198, 199, 200, 201, 202, 203, 204, 205, 206, 207, 208, 209, 210, 211, 212, 213, 214, 215, 216, 217, 218, 219, 220] (.sq (.sq .z (.cd .z .z)) (.sq (.bk (.sq (.dr (.pur true 0 (.pur true 1 (.pur true 2 (.pur true 3 (.pur false 4 (.pur true 5 (.pur false 6 (.pur true 7 (.pur true 8 (.pur true 9 (.pur true 10 (.pur true 11 (.pur true 12 (.pur false 13 (.pur true 14 (.pur false 15 (.pur true 16 (.pur true 17 (.pur true 18 (.pur true 19 (.pur true 20 (.pur true 21 (.pur true 22 (.pur false 23 (.pur true 24 (.pur false 25 (.pur true 26 (.pur true 27 .done))))))))))))))))))))))))))))) (.cd .z .z))) .z))))) (.sq (.dr (.pur true 0 (.pur true 1 (.pur true 2 (.pur true 3 (.pur true 4 (.pur false 5 (.pur true 6 (.pur true 7 (.pur true 8 (.pur true 9 (.pur false 10 (.pur false 11 (.eff 12 [] (.pur true 13 (.pur true 14 (.pur true 15 (.pur true 16 (.pur false 17 (.eff 18 [17] (.eff 19 [] (.pur true 20 (.pur true 21 (.pur true 22 (.pur true 23 (.pur false 24 (.pur false 25 (.eff 26 [24, 25] (.eff 27 [24] (.pur true 28 (.pur true 29 (.pur true 30 (.pur true 31 (.pur true 32 (.pur false 33 (.pur true 34 (.pur true 35 (.pur false 36 (.pur true 37 (.pur true 38 (.pur true 39 (.pur true 40 (.pur true 41 .done))))))))))))))))))))))))))))))))))))))))))) .z)))))))))))))))) [t0, t1, t2] Tryz.func8 (by kernel_rfl) (by kernel_rfl) h
end Go.Proofs.YtnkmbjedcjcccaaGreatDoor
