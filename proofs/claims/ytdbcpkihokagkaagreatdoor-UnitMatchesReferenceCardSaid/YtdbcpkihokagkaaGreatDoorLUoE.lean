/-
  Contracts and plain lemmas. By an AI agent.
-/
import Derived.Test.YtdbcpkihokagkaaGreatDoorEng
import Derived.Test.YtdbcpkihokagkaaGreatDoorProg
set_option linter.unusedSimpArgs false
set_option linter.unusedVariables false
set_option linter.unusedSectionVars false
namespace Go.Proofs.YtdbcpkihokagkaaGreatDoor
open Go Go.Eng Go.Shelf
set_option maxRecDepth 100000
variable {t0 t1 t2 t3 : Value} {w : World} {R : Ending → World → Prop}
def s_law05_UnitMatchesReference (P : Program) (t0 t1 t2 t3 : Value) (w : World) (R : Ending → World → Prop) : Prop :=
 Bx P 27 t0 w fun t4 w =>
 Bx P 27 t1 w fun t5 w =>
 Bx P 28 t2 w fun t6 w =>
 Bx P 28 t3 w fun t7 w =>
 Cl P 10 #[] w (Pk R) fun t25 w =>
 dL P 27 t4 w.drew fun t26 =>
 dL P 27 t5 w.drew fun t28 =>
 dL P 28 t6 w.drew fun t30 =>
 dL P 28 t7 w.drew fun t32 =>
 Cl P 11 #[t26] w.drew (Pk R) fun t27 w =>
 kLd P 27 t5 t28 w <|
 kLd P 28 t6 t30 w <|
 kLd P 28 t7 t32 w <|
 Cl P 11 #[t28] w (Pk R) fun t29 w =>
 kLd P 28 t6 t30 w <|
 kLd P 28 t7 t32 w <|
 Cl P 12 #[t30] w (Pk R) fun t31 w =>
 kLd P 28 t7 t32 w <|
 Cl P 12 #[t32] w (Pk R) fun t33 w =>
 Bs P 32 4 [(0, t27), (1, t29), (2, t31), (3, t33)] w fun t34 w =>
 Lp1 (.int .i64 0) w (fun t11 w k1 =>
 Bt P .len #[32] 3 #[t34] w fun t37 w =>
 Bn P .lss 3 false t11 t37 w fun t38 w =>
 If t38
 (dIx P 32 t34 t11 w.drew fun t43 =>
 dL P 27 t43 w.drew fun t44 =>
 dIx P 32 t34 t11 w.drew fun t48 =>
 dL P 27 t48 w.drew fun t49 =>
 Cl P 13 #[t44] w.drew (Pk R) fun t45 w =>
 kLd P 27 t48 t49 w <|
 Cl P 14 #[t49] w (Pk R) fun t50 w =>
 Dv P true (bn .neq 4 false t45 t50) w fun t51 =>
 GdP t51 false (fun k => k t34) fun t53 =>
 GdP t51 false (fun k => k t11) fun t54 =>
 GdP t51 false (fun k => dIx P 32 t53 t54 w k) fun t55 =>
 GdP t51 false (fun k => dFl P 27 t55 1 w k) fun t56 =>
 GdP t51 false (fun k => dL P 25 t56 w k) fun t57 =>
 GdP t51 false (fun k => k t34) fun t59 =>
 GdP t51 false (fun k => k t11) fun t60 =>
 GdP t51 false (fun k => dIx P 32 t59 t60 w k) fun t61 =>
 GdP t51 false (fun k => dFl P 27 t61 1 w k) fun t62 =>
 GdP t51 false (fun k => dL P 25 t62 w k) fun t63 =>
 Gd t51 false (fun k => Cl P 15 #[t57] w (Pk R) k) w fun t58 w =>
 Kg t51 false P (Instr.loadAt 25 t62) t63 w <|
 Gd t51 false (fun k => Cl P 16 #[t63] w (Pk R) k) w fun t64 w =>
 GdP t51 false (fun k => Dv P true (bn .neq 4 false t58 t64) w k) fun t65 =>
 PickP t51 (.bool true) t65 fun t66 =>
 If t66
 (R (.returned (.bool false)) w)
 (Lp1 (.int .i64 0) w (fun t12 w k2 =>
 Bt P .len #[32] 3 #[t34] w fun t69 w =>
 Bn P .lss 3 false t12 t69 w fun t70 w =>
 If t70
 (Jn2 (fun k3 =>
 dIx P 32 t34 t11 w.drew fun t76 =>
 dL P 27 t76 w.drew fun t77 =>
 dIx P 32 t34 t12 w.drew fun t80 =>
 dL P 27 t80 w.drew fun t81 =>
 (Cl P 17 #[t77, t81] w.drew (Pk R) fun t82 w =>
 ExP t82 0 fun t83 =>
 ExP t82 1 fun t84 =>
 Al P 27 w fun t13 w =>
 kLd P 27 t76 t77 w <|
 kLd P 27 t80 t81 w <|
 Sto P 27 t13 t83 w fun w =>
 k3 t13 t84 w) ∧
 (Al P 27 w.drew fun t13x1 w =>
 kLd P 27 t76 t77 w <|
 kLd P 27 t80 t81 w <|
 Cl P 17 #[t77, t81] w (Pk R) fun t82x1 w =>
 ExP t82x1 0 fun t83x1 =>
 ExP t82x1 1 fun t84x1 =>
 Sto P 27 t13x1 t83x1 w fun w =>
 k3 t13x1 t84x1 w))
 (fun t13x2 t14 w =>
 Jn2 (fun k4 =>
 dIx P 32 t34 t11 w.drew fun t88 =>
 dL P 27 t88 w.drew fun t89 =>
 dIx P 32 t34 t12 w.drew fun t92 =>
 dL P 27 t92 w.drew fun t93 =>
 (Cl P 18 #[t89, t93] w.drew (Pk R) fun t94 w =>
 ExP t94 0 fun t95 =>
 ExP t94 1 fun t96 =>
 Al P 27 w fun t15 w =>
 kLd P 27 t88 t89 w <|
 kLd P 27 t92 t93 w <|
 Sto P 27 t15 t95 w fun w =>
 k4 t15 t96 w) ∧
 (Al P 27 w.drew fun t15x1 w =>
 kLd P 27 t88 t89 w <|
 kLd P 27 t92 t93 w <|
 Cl P 18 #[t89, t93] w (Pk R) fun t94x1 w =>
 ExP t94x1 0 fun t95x1 =>
 ExP t94x1 1 fun t96x1 =>
 Sto P 27 t15x1 t95x1 w fun w =>
 k4 t15x1 t96x1 w))
 (fun t15x2 t16 w =>
 Jn2 (fun k5 =>
 dIx P 32 t34 t11 w.drew fun t100 =>
 dL P 27 t100 w.drew fun t101 =>
 dIx P 32 t34 t12 w.drew fun t104 =>
 dL P 27 t104 w.drew fun t105 =>
 (Cl P 19 #[t101, t105] w.drew (Pk R) fun t106 w =>
 ExP t106 0 fun t107 =>
 ExP t106 1 fun t108 =>
 Al P 27 w fun t17 w =>
 kLd P 27 t100 t101 w <|
 kLd P 27 t104 t105 w <|
 Sto P 27 t17 t107 w fun w =>
 k5 t17 t108 w) ∧
 (Al P 27 w.drew fun t17x1 w =>
 kLd P 27 t100 t101 w <|
 kLd P 27 t104 t105 w <|
 Cl P 19 #[t101, t105] w (Pk R) fun t106x1 w =>
 ExP t106x1 0 fun t107x1 =>
 ExP t106x1 1 fun t108x1 =>
 Sto P 27 t17x1 t107x1 w fun w =>
 k5 t17x1 t108x1 w))
 (fun t17x2 t18 w =>
 Jn2 (fun k6 =>
 dIx P 32 t34 t11 w.drew fun t112 =>
 dL P 27 t112 w.drew fun t113 =>
 dIx P 32 t34 t12 w.drew fun t116 =>
 dL P 27 t116 w.drew fun t117 =>
 (Cl P 20 #[t113, t117] w.drew (Pk R) fun t118 w =>
 ExP t118 0 fun t119 =>
 ExP t118 1 fun t120 =>
 Al P 27 w fun t19 w =>
 kLd P 27 t112 t113 w <|
 kLd P 27 t116 t117 w <|
 Sto P 27 t19 t119 w fun w =>
 k6 t19 t120 w) ∧
 (Al P 27 w.drew fun t19x1 w =>
 kLd P 27 t112 t113 w <|
 kLd P 27 t116 t117 w <|
 Cl P 20 #[t113, t117] w (Pk R) fun t118x1 w =>
 ExP t118x1 0 fun t119x1 =>
 ExP t118x1 1 fun t120x1 =>
 Sto P 27 t19x1 t119x1 w fun w =>
 k6 t19x1 t120x1 w))
 (fun t19x2 t20 w =>
 Ld P 27 t13x2 w fun t121 w =>
 Ld P 27 t15x2 w fun t122 w =>
 Bn P .neq 27 false t121 t122 w fun t123 w =>
 Gd t123 false (fun k => k t14 w) w fun t125 w =>
 Gd t123 false (fun k => k t16 w) w fun t126 w =>
 Gd t123 false (fun k => Bn P .neq 35 false t125 t126 w k) w fun t127 w =>
 Pick t123 (.bool true) t127 w fun t128 w =>
 Gd t128 false (fun k => Ld P 27 t17x2 w k) w fun t130 w =>
 Gd t128 false (fun k => Ld P 27 t19x2 w k) w fun t131 w =>
 Gd t128 false (fun k => Bn P .neq 27 false t130 t131 w k) w fun t132 w =>
 Pick t128 (.bool true) t132 w fun t133 w =>
 Gd t133 false (fun k => k t18 w) w fun t135 w =>
 Gd t133 false (fun k => k t20 w) w fun t136 w =>
 Gd t133 false (fun k => Bn P .neq 35 false t135 t136 w k) w fun t137 w =>
 Pick t133 (.bool true) t137 w fun t138 w =>
 If t138
 (R (.returned (.bool false)) w)
 (dIx P 32 t34 t11 w.drew fun t142 =>
 dL P 27 t142 w.drew fun t143 =>
 dIx P 32 t34 t12 w.drew fun t146 =>
 dL P 27 t146 w.drew fun t147 =>
 Cl P 21 #[t143, t147] w.drew (Pk R) fun t148 w =>
 ExP t148 0 fun t149 =>
 ExP t148 1 fun t150 =>
 Sto P 27 t13x2 t149 w fun w =>
 dIx P 32 t34 t11 w.drew fun t154 =>
 dL P 27 t154 w.drew fun t155 =>
 dIx P 32 t34 t12 w.drew fun t158 =>
 dL P 27 t158 w.drew fun t159 =>
 Cl P 22 #[t155, t159] w.drew (Pk R) fun t160 w =>
 ExP t160 0 fun t161 =>
 ExP t160 1 fun t162 =>
 Sto P 27 t15x2 t161 w fun w =>
 dIx P 32 t34 t11 w.drew fun t166 =>
 dL P 27 t166 w.drew fun t167 =>
 dIx P 32 t34 t12 w.drew fun t170 =>
 dL P 27 t170 w.drew fun t171 =>
 Cl P 23 #[t167, t171] w.drew (Pk R) fun t172 w =>
 ExP t172 0 fun t173 =>
 ExP t172 1 fun t174 =>
 Sto P 27 t17x2 t173 w fun w =>
 dIx P 32 t34 t11 w.drew fun t178 =>
 dL P 27 t178 w.drew fun t179 =>
 dIx P 32 t34 t12 w.drew fun t182 =>
 dL P 27 t182 w.drew fun t183 =>
 Cl P 24 #[t179, t183] w.drew (Pk R) fun t184 w =>
 ExP t184 0 fun t185 =>
 ExP t184 1 fun t186 =>
 Sto P 27 t19x2 t185 w fun w =>
 Ld P 27 t13x2 w fun t187 w =>
 Ld P 27 t15x2 w fun t188 w =>
 Bn P .neq 27 false t187 t188 w fun t189 w =>
 Gd t189 false (fun k => k t150 w) w fun t191 w =>
 Gd t189 false (fun k => k t162 w) w fun t192 w =>
 Gd t189 false (fun k => Bn P .neq 35 false t191 t192 w k) w fun t193 w =>
 Pick t189 (.bool true) t193 w fun t194 w =>
 Gd t194 false (fun k => Ld P 27 t17x2 w k) w fun t196 w =>
 Gd t194 false (fun k => Ld P 27 t19x2 w k) w fun t197 w =>
 Gd t194 false (fun k => Bn P .neq 27 false t196 t197 w k) w fun t198 w =>
 Pick t194 (.bool true) t198 w fun t199 w =>
 Gd t199 false (fun k => k t174 w) w fun t201 w =>
 Gd t199 false (fun k => k t186 w) w fun t202 w =>
 Gd t199 false (fun k => Bn P .neq 35 false t201 t202 w k) w fun t203 w =>
 Pick t199 (.bool true) t203 w fun t204 w =>
 If t204
 (R (.returned (.bool false)) w)
 (dIx P 32 t34 t11 w.drew fun t208 =>
 dL P 27 t208 w.drew fun t209 =>
 dIx P 32 t34 t12 w.drew fun t212 =>
 dL P 27 t212 w.drew fun t213 =>
 Cl P 25 #[t209, t213] w.drew (Pk R) fun t214 w =>
 ExP t214 0 fun t215 =>
 ExP t214 1 fun t216 =>
 dIx P 32 t34 t11 w.drew fun t220 =>
 dL P 27 t220 w.drew fun t221 =>
 dIx P 32 t34 t12 w.drew fun t224 =>
 dL P 27 t224 w.drew fun t225 =>
 Cl P 26 #[t221, t225] w.drew (Pk R) fun t226 w =>
 ExP t226 0 fun t227 =>
 ExP t226 1 fun t228 =>
 Bn P .neq 3 false t215 t227 w fun t231 w =>
 Gd t231 false (fun k => k t216 w) w fun t233 w =>
 Gd t231 false (fun k => k t228 w) w fun t234 w =>
 Gd t231 false (fun k => Bn P .neq 35 false t233 t234 w k) w fun t235 w =>
 Pick t231 (.bool true) t235 w fun t236 w =>
 If t236
 (R (.returned (.bool false)) w)
 (Bn P .add 3 true t12 (.int .i64 1) w fun t72 w =>
 k2 t72 w))))))))
 (Bn P .add 3 true t11 (.int .i64 1) w fun t40 w =>
 k1 t40 w))))
 (R (.returned t25) w))
theorem e_law05_UnitMatchesReference (h : s_law05_UnitMatchesReference Tryz.prog t0 t1 t2 t3 w R) : Calls Tryz.prog 3 #[t0, t1, t2, t3] w R :=
 en1 (.sq .z (.sq .z (.sq (.dr (.pur false 0 (.pur false 2 (.pur false 4 (.pur false 6 (.eff 1 [2, 4, 6] (.eff 3 [4, 6] (.eff 5 [6] (.eff 7 [] (.eff 8 [] (.pur true 9 .done))))))))))) (.sq (.sq .z (.bk (.lp [11] [8, 12, 13, 14, 15, 16, 17, 18, 19, 20, 21, 22, 23, 24, 35, 36, 37, 38, 39, 40, 41, 42, 43, 44, 45, 46, 47, 48, 49, 50, 51, 52, 53, 54, 55, 56, 57, 58, 59, 60, 61, 62, 63, 64, 65, 66, 67, 68, 69, 70, 71, 72, 73, 74, 75, 76, 77, 78, 79, 80, 81, 82, 83, 84, 85, 86, 87, 88, 89, 90, 91, 92, 93, 94, 95, 96, 97, 98, 99, 100, 101, 102, 103, 104, 105, 106, 107, 108, 109, 110, 111, 112, 113, 114, 115, 116, 117, 118, 119, 120, 121, 122, 123, 124, 125, 126, 127, 128, 129, 130, 131, 132, 133, 134, 135, 136, 137, 138, 139, 140, 141, 142, 143, 144, 145, 146, 147, 148, 149, 150, 151, 152, 153, 154, 155, 156, 157, 158, 159, 160, 161, 162, 163, 164, 165, 166, 167, 168, 169, 170, 171, 172, 173, 174, 175, 176, 177, 178, 179, 180, 181, 182, 183, 184, 185, 186, 187, 188, 189, 190, 191, 192, 193, 194, 195, 196, 197, 198, 199, 200, 201, 202, 203, 204, 205, 206, 207, 208, 209, 210, 211, 212, 213, 214, 215, 216, 217, 218, 219, 220, 221, 222, 223, 224, 225, 226, 227, 228, 229, 230, 231, 232, 233, 234, 235, 236] (.sq (.sq .z (.cd .z .z)) (.sq (.bk (.sq (.sq (.dr (.pur true 0 (.pur true 1 (.pur true 2 (.pur false 3 (.pur true 5 (.pur true 6 (.pur true 7 (.pur false 8 (.eff 4 [8] (.eff 9 [] (.pur true 10 (.pur true 11 (.pur true 12 (.pur true 13 (.pur true 14 (.pur true 15 (.pur false 16 (.pur true 18 (.pur true 19 (.pur true 20 (.pur true 21 (.pur false 22 (.eff 17 [22] (.eff 23 [] (.pur true 24 (.pur true 25 .done))))))))))))))))))))))))))) (.cd (.sq .z .z) .z)) (.sq .z (.bk (.lp [12] [8, 13, 14, 15, 16, 17, 18, 19, 20, 21, 22, 23, 24, 67, 68, 69, 70, 71, 72, 73, 74, 75, 76, 77, 78, 79, 80, 81, 82, 83, 84, 85, 86, 87, 88, 89, 90, 91, 92, 93, 94, 95, 96, 97, 98, 99, 100, 101, 102, 103, 104, 105, 106, 107, 108, 109, 110, 111, 112, 113, 114, 115, 116, 117, 118, 119, 120, 121, 122, 123, 124, 125, 126, 127, 128, 129, 130, 131, 132, 133, 134, 135, 136, 137, 138, 139, 140, 141, 142, 143, 144, 145, 146, 147, 148, 149, 150, 151, 152, 153, 154, 155, 156, 157, 158, 159, 160, 161, 162, 163, 164, 165, 166, 167, 168, 169, 170, 171, 172, 173, 174, 175, 176, 177, 178, 179, 180, 181, 182, 183, 184, 185, 186, 187, 188, 189, 190, 191, 192, 193, 194, 195, 196, 197, 198, 199, 200, 201, 202, 203, 204, 205, 206, 207, 208, 209, 210, 211, 212, 213, 214, 215, 216, 217, 218, 219, 220, 221, 222, 223, 224, 225, 226, 227, 228, 229, 230, 231, 232, 233, 234, 235, 236] (.sq (.sq .z (.cd .z .z)) (.sq (.bk (.jn [13, 14] [73, 74, 75, 76, 77, 78, 79, 80, 81, 82, 83, 84] (.dr (.pur true 0 (.pur true 1 (.pur true 2 (.pur false 3 (.pur true 4 (.pur true 5 (.pur true 6 (.pur false 7 (.alt (.eff 8 [] (.pur true 9 (.pur true 10 (.pur true 11 (.eff 12 [3, 7] (.eff 13 [] (.pur true 14 .done))))))) (.eff 12 [3, 7] (.eff 8 [] (.pur true 9 (.pur true 10 (.pur true 11 (.eff 13 [] (.pur true 14 .done))))))))))))))))) (.jn [15, 16] [85, 86, 87, 88, 89, 90, 91, 92, 93, 94, 95, 96] (.dr (.pur true 0 (.pur true 1 (.pur true 2 (.pur false 3 (.pur true 4 (.pur true 5 (.pur true 6 (.pur false 7 (.alt (.eff 8 [] (.pur true 9 (.pur true 10 (.pur true 11 (.eff 12 [3, 7] (.eff 13 [] (.pur true 14 .done))))))) (.eff 12 [3, 7] (.eff 8 [] (.pur true 9 (.pur true 10 (.pur true 11 (.eff 13 [] (.pur true 14 .done))))))))))))))))) (.jn [17, 18] [97, 98, 99, 100, 101, 102, 103, 104, 105, 106, 107, 108] (.dr (.pur true 0 (.pur true 1 (.pur true 2 (.pur false 3 (.pur true 4 (.pur true 5 (.pur true 6 (.pur false 7 (.alt (.eff 8 [] (.pur true 9 (.pur true 10 (.pur true 11 (.eff 12 [3, 7] (.eff 13 [] (.pur true 14 .done))))))) (.eff 12 [3, 7] (.eff 8 [] (.pur true 9 (.pur true 10 (.pur true 11 (.eff 13 [] (.pur true 14 .done))))))))))))))))) (.jn [19, 20] [109, 110, 111, 112, 113, 114, 115, 116, 117, 118, 119, 120] (.dr (.pur true 0 (.pur true 1 (.pur true 2 (.pur false 3 (.pur true 4 (.pur true 5 (.pur true 6 (.pur false 7 (.alt (.eff 8 [] (.pur true 9 (.pur true 10 (.pur true 11 (.eff 12 [3, 7] (.eff 13 [] (.pur true 14 .done))))))) (.eff 12 [3, 7] (.eff 8 [] (.pur true 9 (.pur true 10 (.pur true 11 (.eff 13 [] (.pur true 14 .done))))))))))))))))) (.sq (.sq .z (.cd (.sq .z .z) .z)) (.sq (.dr (.pur true 0 (.pur true 1 (.pur true 2 (.pur false 3 (.pur true 4 (.pur true 5 (.pur true 6 (.pur false 7 (.eff 8 [] (.pur true 9 (.pur true 10 (.pur true 11 (.eff 12 [] (.pur true 13 .done))))))))))))))) (.sq (.dr (.pur true 0 (.pur true 1 (.pur true 2 (.pur false 3 (.pur true 4 (.pur true 5 (.pur true 6 (.pur false 7 (.eff 8 [] (.pur true 9 (.pur true 10 (.pur true 11 (.eff 12 [] (.pur true 13 .done))))))))))))))) (.sq (.dr (.pur true 0 (.pur true 1 (.pur true 2 (.pur false 3 (.pur true 4 (.pur true 5 (.pur true 6 (.pur false 7 (.eff 8 [] (.pur true 9 (.pur true 10 (.pur true 11 (.eff 12 [] (.pur true 13 .done))))))))))))))) (.sq (.dr (.pur true 0 (.pur true 1 (.pur true 2 (.pur false 3 (.pur true 4 (.pur true 5 (.pur true 6 (.pur false 7 (.eff 8 [] (.pur true 9 (.pur true 10 (.pur true 11 (.eff 12 [] (.pur true 13 .done))))))))))))))) (.sq (.sq .z (.cd (.sq .z .z) .z)) (.sq (.dr (.pur true 0 (.pur true 1 (.pur true 2 (.pur false 3 (.pur true 4 (.pur true 5 (.pur true 6 (.pur false 7 (.eff 8 [] (.pur true 9 (.pur true 10 (.pur true 11 (.pur true 12 (.pur true 13 .done))))))))))))))) (.sq (.dr (.pur true 0 (.pur true 1 (.pur true 2 (.pur false 3 (.pur true 4 (.pur true 5 (.pur true 6 (.pur false 7 (.eff 8 [] (.pur true 9 (.pur true 10 (.pur true 11 (.pur true 12 (.pur true 13 .done))))))))))))))) (.sq .z (.cd (.sq .z .z) .z))))))))))))))) .z))))))) .z))))) (.sq .z .z))))) [t0, t1, t2, t3] Tryz.func3 (by kernel_rfl) (by kernel_rfl) h
end Go.Proofs.YtdbcpkihokagkaaGreatDoor
