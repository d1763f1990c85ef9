/-
  Contracts and plain lemmas. By an AI agent.
-/
import Derived.Test.YtnkmbjedcjcccaaGreatDoorEng
import Derived.Test.YtnkmbjedcjcccaaGreatDoorProg
set_option linter.unusedSimpArgs false
set_option linter.unusedVariables false
set_option linter.unusedSectionVars false
namespace Go.Proofs.YtnkmbjedcjcccaaGreatDoor
open Go Go.Eng Go.Shelf
set_option maxRecDepth 100000
variable {t0 t1 t2 : Value} {w : World} {R : Ending → World → Prop}
def s_law28_AlarmBudget (P : Program) (t0 t1 t2 : Value) (w : World) (R : Ending → World → Prop) : Prop :=
 Cl P 9 #[] w (Pk R) fun t24 w =>
 Un P .not t24 w fun t25 w =>
 If t25
 (R (.returned (.bool false)) w)
 (Cl P 10 #[t0, t1] w (Pk R) fun t29 w =>
 Ex t29 0 w fun t30 w =>
 Ex t29 1 w fun t31 w =>
 Al P 35 w fun t7 w =>
 Sto P 35 t7 t30 w fun w =>
 Un P .not t31 w fun t33 w =>
 If t33
 (R (.returned (.bool false)) w)
 (Lp1 (.int .i64 0) w (fun t9 w k1 =>
 Bt P .len #[23] 3 #[t2] w fun t36 w =>
 Bn P .lss 3 false t9 t36 w fun t37 w =>
 Gd t37 true (fun k => k t9 w) w fun t39 w =>
 Gd t37 true (fun k => Bn P .lss 3 true t39 (.int .i64 15) w k) w fun t40 w =>
 Pick t37 t40 (.bool false) w fun t41 w =>
 If t41
 (Jn2 (fun k2 =>
 dL P 35 t7 w.drew fun t45 =>
 dIx P 23 t2 t9 w.drew fun t48 =>
 dL P 41 t48 w.drew fun t49 =>
 (Cl P 11 #[t45, t49] w.drew (Pk R) fun t50 w =>
 ExP t50 0 fun t51 =>
 ExP t50 1 fun t52 =>
 Al P 35 w fun t10 w =>
 kLd P 35 t7 t45 w <|
 kLd P 41 t48 t49 w <|
 Sto P 35 t10 t51 w fun w =>
 k2 t10 t52 w) ∧
 (Al P 35 w.drew fun t10x1 w =>
 kLd P 35 t7 t45 w <|
 kLd P 41 t48 t49 w <|
 Cl P 11 #[t45, t49] w (Pk R) fun t50x1 w =>
 ExP t50x1 0 fun t51x1 =>
 ExP t50x1 1 fun t52x1 =>
 Sto P 35 t10x1 t51x1 w fun w =>
 k2 t10x1 t52x1 w))
 (fun t10x2 t11 w =>
 Fa P 35 t7 0 w fun t54 w =>
 Ld P 28 t54 w fun t55 w =>
 Cl P 19 #[t55] w (Pk R) fun t56 w =>
 Ex t56 0 w fun t57 w =>
 Ex t56 1 w fun t58 w =>
 Al P 25 w fun t12 w =>
 Sto P 25 t12 t57 w fun w =>
 Fa P 35 t10x2 0 w fun t60 w =>
 Ld P 28 t60 w fun t61 w =>
 Cl P 19 #[t61] w (Pk R) fun t62 w =>
 Ex t62 0 w fun t63 w =>
 Ex t62 1 w fun t64 w =>
 Al P 25 w fun t14 w =>
 Sto P 25 t14 t63 w fun w =>
 Un P .not t11 w fun t66 w =>
 Gd t66 false (fun k => k t58 w) w fun t68 w =>
 Gd t66 false (fun k => Bn P .neq 46 true t68 (.int .i64 0) w k) w fun t69 w =>
 Pick t66 (.bool true) t69 w fun t70 w =>
 Gd t70 false (fun k => k t64 w) w fun t72 w =>
 Gd t70 false (fun k => Bn P .neq 46 true t72 (.int .i64 0) w k) w fun t73 w =>
 Pick t70 (.bool true) t73 w fun t74 w =>
 Gd t74 false (fun k => Fa P 35 t10x2 0 w k) w fun t76 w =>
 Gd t74 false (fun k => Ld P 28 t76 w k) w fun t77 w =>
 Gd t74 false (fun k => Cl P 13 #[t77] w (Pk R) k) w fun t78 w =>
 Gd t74 false (fun k => Un P .not t78 w k) w fun t79 w =>
 Pick t74 (.bool true) t79 w fun t80 w =>
 Gd t80 false (fun k => Fa P 35 t10x2 0 w k) w fun t82 w =>
 Gd t80 false (fun k => Fa P 28 t82 1 w k) w fun t83 w =>
 Gd t80 false (fun k => Ld P 26 t83 w k) w fun t84 w =>
 Gd t80 false (fun k => Bt P .len #[26] 3 #[t84] w k) w fun t85 w =>
 Gd t80 false (fun k => Fa P 35 t7 0 w k) w fun t86 w =>
 Gd t80 false (fun k => Fa P 28 t86 1 w k) w fun t87 w =>
 Gd t80 false (fun k => Ld P 26 t87 w k) w fun t88 w =>
 Gd t80 false (fun k => Bt P .len #[26] 3 #[t88] w k) w fun t89 w =>
 Gd t80 false (fun k => Bn P .lss 3 false t85 t89 w k) w fun t90 w =>
 Pick t80 (.bool true) t90 w fun t91 w =>
 If t91
 (R (.returned (.bool false)) w)
 (Ld P 25 t14 w fun t92 w =>
 Al P 25 w fun t16 w =>
 Sto P 25 t16 t92 w fun w =>
 Lp1 (.int .i64 0) w (fun t17 w k3 =>
 Fa P 35 t10x2 0 w fun t94 w =>
 Fa P 28 t94 1 w fun t95 w =>
 Ld P 26 t95 w fun t96 w =>
 Bt P .len #[26] 3 #[t96] w fun t97 w =>
 Bn P .lss 3 false t17 t97 w fun t98 w =>
 If t98
 (Jn2 (fun k4 =>
 dL P 25 t16 w.drew fun t102 =>
 dFl P 35 t10x2 0 w.drew fun t103 =>
 dFl P 28 t103 1 w.drew fun t104 =>
 dL P 26 t104 w.drew fun t105 =>
 dIx P 26 t105 t17 w.drew fun t107 =>
 dFl P 30 t107 4 w.drew fun t108 =>
 dL P 25 t108 w.drew fun t109 =>
 (Cl P 35 #[t102, t109] w.drew (Pk R) fun t110 w =>
 ExP t110 0 fun t111 =>
 ExP t110 1 fun t112 =>
 Al P 25 w fun t18 w =>
 kLd P 25 t16 t102 w <|
 kLd P 26 t104 t105 w <|
 kLd P 25 t108 t109 w <|
 Sto P 25 t18 t111 w fun w =>
 k4 t18 t112 w) ∧
 (Al P 25 w.drew fun t18x1 w =>
 kLd P 25 t16 t102 w <|
 kLd P 26 t104 t105 w <|
 kLd P 25 t108 t109 w <|
 Cl P 35 #[t102, t109] w (Pk R) fun t110x1 w =>
 ExP t110x1 0 fun t111x1 =>
 ExP t110x1 1 fun t112x1 =>
 Sto P 25 t18x1 t111x1 w fun w =>
 k4 t18x1 t112x1 w))
 (fun t18x2 t19 w =>
 Bn P .neq 46 true t19 (.int .i64 0) w fun t114 w =>
 If t114
 (R (.returned (.bool false)) w)
 (Ld P 25 t18x2 w fun t115 w =>
 Sto P 25 t16 t115 w fun w =>
 Fa P 35 t7 0 w fun t117 w =>
 Fa P 28 t117 1 w fun t118 w =>
 Ld P 26 t118 w fun t119 w =>
 Bt P .len #[26] 3 #[t119] w fun t120 w =>
 Bn P .lss 3 false t17 t120 w fun t121 w =>
 If t121
 (Fa P 35 t7 0 w fun t122 w =>
 Fa P 28 t122 1 w fun t123 w =>
 Ld P 26 t123 w fun t124 w =>
 Ia P 26 t124 t17 w fun t126 w =>
 Ld P 30 t126 w fun t127 w =>
 Al P 30 w fun t20 w =>
 Sto P 30 t20 t127 w fun w =>
 Fa P 35 t10x2 0 w fun t128 w =>
 Fa P 28 t128 1 w fun t129 w =>
 Ld P 26 t129 w fun t130 w =>
 Ia P 26 t130 t17 w fun t132 w =>
 Ld P 30 t132 w fun t133 w =>
 Al P 30 w fun t21 w =>
 Sto P 30 t21 t133 w fun w =>
 Fa P 30 t20 10 w fun t134 w =>
 Ld P 4 t134 w fun t135 w =>
 Gd t135 true (fun k => Fa P 30 t21 9 w k) w fun t137 w =>
 Gd t135 true (fun k => Ld P 25 t137 w k) w fun t138 w =>
 Gd t135 true (fun k => Fa P 30 t20 9 w k) w fun t139 w =>
 Gd t135 true (fun k => Ld P 25 t139 w k) w fun t140 w =>
 Gd t135 true (fun k => Bn P .neq 25 false t138 t140 w k) w fun t141 w =>
 Gd t135 true (fun k => k t141 w) w fun t142 w =>
 Gd t142 false (fun k => Fa P 30 t21 8 w k) w fun t143 w =>
 Gd t142 false (fun k => Ld P 3 t143 w k) w fun t144 w =>
 Gd t142 false (fun k => Fa P 30 t20 8 w k) w fun t145 w =>
 Gd t142 false (fun k => Ld P 3 t145 w k) w fun t146 w =>
 Gd t142 false (fun k => Bn P .neq 3 false t144 t146 w k) w fun t147 w =>
 Gd t135 true (fun k => Pick t142 (.bool true) t147 w k) w fun t148 w =>
 Gd t135 true (fun k => k t148 w) w fun t149 w =>
 Gd t149 false (fun k => Fa P 30 t21 10 w k) w fun t150 w =>
 Gd t149 false (fun k => Ld P 4 t150 w k) w fun t151 w =>
 Gd t149 false (fun k => Un P .not t151 w k) w fun t152 w =>
 Gd t135 true (fun k => Pick t149 (.bool true) t152 w k) w fun t153 w =>
 Pick t135 t153 (.bool false) w fun t154 w =>
 Gd t154 false (fun k => Fa P 30 t21 8 w k) w fun t156 w =>
 Gd t154 false (fun k => Ld P 3 t156 w k) w fun t157 w =>
 Gd t154 false (fun k => Fa P 30 t20 8 w k) w fun t158 w =>
 Gd t154 false (fun k => Ld P 3 t158 w k) w fun t159 w =>
 Gd t154 false (fun k => Bn P .lss 3 false t157 t159 w k) w fun t160 w =>
 Pick t154 (.bool true) t160 w fun t161 w =>
 Gd t161 false (fun k => Fa P 30 t21 7 w k) w fun t163 w =>
 Gd t161 false (fun k => Ld P 3 t163 w k) w fun t164 w =>
 Gd t161 false (fun k => Fa P 30 t20 7 w k) w fun t165 w =>
 Gd t161 false (fun k => Ld P 3 t165 w k) w fun t166 w =>
 Gd t161 false (fun k => Bn P .lss 3 false t164 t166 w k) w fun t167 w =>
 Pick t161 (.bool true) t167 w fun t168 w =>
 If t168
 (R (.returned (.bool false)) w)
 (Bn P .add 3 true t17 (.int .i64 1) w fun t100 w =>
 k3 t100 w))
 (Bn P .add 3 true t17 (.int .i64 1) w fun t100x1 w =>
 k3 t100x1 w))))
 (Ld P 25 t16 w fun t169 w =>
 Fa P 35 t7 0 w fun t170 w =>
 Fa P 28 t170 0 w fun t171 w =>
 Ld P 25 t171 w fun t172 w =>
 Bn P .neq 25 false t169 t172 w fun t173 w =>
 Gd t173 false (fun k => Fa P 35 t10x2 0 w k) w fun t175 w =>
 Gd t173 false (fun k => Fa P 28 t175 1 w k) w fun t176 w =>
 Gd t173 false (fun k => Ld P 26 t176 w k) w fun t177 w =>
 Gd t173 false (fun k => Bt P .len #[26] 3 #[t177] w k) w fun t178 w =>
 Gd t173 false (fun k => Fa P 35 t7 0 w k) w fun t179 w =>
 Gd t173 false (fun k => Fa P 28 t179 1 w k) w fun t180 w =>
 Gd t173 false (fun k => Ld P 26 t180 w k) w fun t181 w =>
 Gd t173 false (fun k => Bt P .len #[26] 3 #[t181] w k) w fun t182 w =>
 Gd t173 false (fun k => Bn P .eql 3 false t178 t182 w k) w fun t183 w =>
 Gd t173 false (fun k => k t183 w) w fun t184 w =>
 Gd t184 true (fun k => Ld P 25 t14 w k) w fun t185 w =>
 Gd t184 true (fun k => Ld P 25 t12 w k) w fun t186 w =>
 Gd t184 true (fun k => Bn P .neq 25 false t185 t186 w k) w fun t187 w =>
 Gd t173 false (fun k => Pick t184 t187 (.bool false) w k) w fun t188 w =>
 Pick t173 (.bool true) t188 w fun t189 w =>
 If t189
 (R (.returned (.bool false)) w)
 (Ld P 35 t10x2 w fun t190 w =>
 Sto P 35 t7 t190 w fun w =>
 Bn P .add 3 true t9 (.int .i64 1) w fun t43 w =>
 k1 t43 w))))))
 (Lp1 (.int .i64 0) w (fun t22 w k5 =>
 Fa P 35 t7 3 w fun t192 w =>
 Ld P 33 t192 w fun t193 w =>
 Bt P .len #[33] 3 #[t193] w fun t194 w =>
 Bn P .lss 3 false t22 t194 w fun t195 w =>
 If t195
 (Lp1 (.int .i64 0) w (fun t23 w k6 =>
 Bn P .lss 3 false t23 t22 w fun t200 w =>
 If t200
 (dFl P 35 t7 3 w.drew fun t203 =>
 dL P 33 t203 w.drew fun t204 =>
 dIx P 33 t204 t22 w.drew fun t206 =>
 dL P 3 t206 w.drew fun t207 =>
 dFl P 35 t7 3 w.drew fun t208 =>
 dL P 33 t208 w.drew fun t209 =>
 dIx P 33 t209 t23 w.drew fun t211 =>
 dL P 3 t211 w.drew fun t212 =>
 Dv P true (bn .eql 3 false t207 t212) w.drew fun t213 =>
 If t213
 (R (.returned (.bool false)) w.drew)
 (Bn P .add 3 true t23 (.int .i64 1) w.drew fun t202 w =>
 k6 t202 w))
 (Bn P .add 3 true t22 (.int .i64 1) w fun t197 w =>
 k5 t197 w)))
 (R (.returned (.bool true)) w))))))
theorem e_law28_AlarmBudget (h : s_law28_AlarmBudget Tryz.prog t0 t1 t2 w R) : Calls Tryz.prog 5 #[t0, t1, t2] w R :=
 en1 (.sq .z (.sq (.sq .z (.cd (.sq .z .z) .z)) (.sq .z (.sq (.sq .z (.cd (.sq .z .z) .z)) (.sq (.sq .z (.bk (.lp [9] [6, 10, 11, 12, 13, 14, 15, 16, 17, 18, 19, 20, 21, 34, 35, 36, 37, 38, 39, 40, 41, 42, 43, 44, 45, 46, 47, 48, 49, 50, 51, 52, 53, 54, 55, 56, 57, 58, 59, 60, 61, 62, 63, 64, 65, 66, 67, 68, 69, 70, 71, 72, 73, 74, 75, 76, 77, 78, 79, 80, 81, 82, 83, 84, 85, 86, 87, 88, 89, 90, 91, 92, 93, 94, 95, 96, 97, 98, 99, 100, 101, 102, 103, 104, 105, 106, 107, 108, 109, 110, 111, 112, 113, 114, 115, 116, 117, 118, 119, 120, 121, 122, 123, 124, 125, 126, 127, 128, 129, 130, 131, 132, 133, 134, 135, 136, 137, 138, 139, 140, 141, 142, 143, 144, 145, 146, 147, 148, 149, 150, 151, 152, 153, 154, 155, 156, 157, 158, 159, 160, 161, 162, 163, 164, 165, 166, 167, 168, 169, 170, 171, 172, 173, 174, 175, 176, 177, 178, 179, 180, 181, 182, 183, 184, 185, 186, 187, 188, 189, 190] (.sq (.sq .z (.cd .z .z)) (.sq (.bk (.jn [10, 11] [44, 45, 46, 47, 48, 49, 50, 51, 52] (.dr (.pur false 0 (.pur true 1 (.pur true 2 (.pur true 3 (.pur false 4 (.alt (.eff 5 [] (.pur true 6 (.pur true 7 (.pur true 8 (.eff 9 [0, 4] (.eff 10 [] (.pur true 11 .done))))))) (.eff 9 [0, 4] (.eff 5 [] (.pur true 6 (.pur true 7 (.pur true 8 (.eff 10 [] (.pur true 11 .done)))))))))))))) (.sq .z (.sq .z (.sq (.sq .z (.cd (.sq .z .z) .z)) (.sq .z (.sq (.sq .z (.bk (.lp [17] [6, 18, 19, 20, 21, 93, 94, 95, 96, 97, 98, 99, 100, 101, 102, 103, 104, 105, 106, 107, 108, 109, 110, 111, 112, 113, 114, 115, 116, 117, 118, 119, 120, 121, 122, 123, 124, 125, 126, 127, 128, 129, 130, 131, 132, 133, 134, 135, 136, 137, 138, 139, 140, 141, 142, 143, 144, 145, 146, 147, 148, 149, 150, 151, 152, 153, 154, 155, 156, 157, 158, 159, 160, 161, 162, 163, 164, 165, 166, 167, 168] (.sq (.sq .z (.cd .z .z)) (.sq (.bk (.jn [18, 19] [101, 102, 103, 104, 105, 106, 107, 108, 109, 110, 111, 112] (.dr (.pur false 0 (.pur true 1 (.pur true 2 (.pur false 3 (.pur true 4 (.pur true 5 (.pur true 6 (.pur false 7 (.alt (.eff 8 [] (.pur true 9 (.pur true 10 (.pur true 11 (.eff 12 [0, 3, 7] (.eff 13 [] (.pur true 14 .done))))))) (.eff 12 [0, 3, 7] (.eff 8 [] (.pur true 9 (.pur true 10 (.pur true 11 (.eff 13 [] (.pur true 14 .done))))))))))))))))) (.sq (.sq .z (.cd (.sq .z .z) .z)) (.sq .z (.sq .z (.cd (.sq .z (.sq .z (.sq .z (.cd (.sq .z .z) .z)))) .z)))))) .z))))) (.sq (.sq .z (.cd (.sq .z .z) .z)) .z)))))))) .z))))) (.sq (.sq .z (.bk (.lp [22] [6, 23, 191, 192, 193, 194, 195, 196, 197, 198, 199, 200, 201, 202, 203, 204, 205, 206, 207, 208, 209, 210, 211, 212, 213] (.sq (.sq .z (.cd .z .z)) (.sq (.bk (.sq .z (.bk (.lp [23] [6, 198, 199, 200, 201, 202, 203, 204, 205, 206, 207, 208, 209, 210, 211, 212, 213] (.sq (.sq .z (.cd .z .z)) (.sq (.bk (.sq (.dr (.pur true 0 (.pur false 1 (.pur true 2 (.pur true 3 (.pur false 4 (.pur true 5 (.pur false 6 (.pur true 7 (.pur true 8 (.pur false 9 (.pur true 10 .done)))))))))))) (.cd (.sq .z .z) .z))) .z)))))) .z))))) (.sq .z .z))))))) [t0, t1, t2] Tryz.func5 (by kernel_rfl) (by kernel_rfl) h
end Go.Proofs.YtnkmbjedcjcccaaGreatDoor
