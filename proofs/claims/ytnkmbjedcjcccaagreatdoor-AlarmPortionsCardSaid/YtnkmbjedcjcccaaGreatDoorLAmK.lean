/-
  Contracts and plain lemmas. By an AI agent.
-/
import Derived.Test.YtnkmbjedcjcccaaGreatDoorEng
import Derived.Test.YtnkmbjedcjcccaaGreatDoorProg
set_option linter.unusedSimpArgs false
set_option linter.unusedVariables false
set_option linter.unusedSectionVars false
namespace Go.Proofs.YtnkmbjedcjcccaaGreatDoor
open Go Go.Eng Go.Shelf
set_option maxRecDepth 100000
variable {t0 t1 t2 t3 : Value} {w : World} {R : Ending → World → Prop}
def s_law28_AlarmPortions (P : Program) (t0 t1 t2 t3 : Value) (w : World) (R : Ending → World → Prop) : Prop :=
 Cl P 9 #[] w (Pk R) fun t34 w =>
 Un P .not t34 w fun t35 w =>
 If t35
 (R (.returned (.bool false)) w)
 (Cl P 36 #[t0, t1] w (Pk R) fun t39 w =>
 Ex t39 0 w fun t40 w =>
 Ex t39 1 w fun t41 w =>
 Al P 28 w fun t9 w =>
 Sto P 28 t9 t40 w fun w =>
 Cl P 37 #[(.int .i64 0), t2] w (Pk R) fun t43 w =>
 Ld P 28 t9 w fun t45 w =>
 Cl P 24 #[t45, t43] w (Pk R) fun t47 w =>
 Ex t47 0 w fun t48 w =>
 Ex t47 1 w fun t49 w =>
 Ex t47 2 w fun t50 w =>
 Al P 28 w fun t12 w =>
 Sto P 28 t12 t48 w fun w =>
 Un P .not t41 w fun t52 w =>
 Gd t52 false (fun k => k t50 w) w fun t54 w =>
 Gd t52 false (fun k => Bn P .neq 46 true t54 (.int .i64 0) w k) w fun t55 w =>
 Pick t52 (.bool true) t55 w fun t56 w =>
 If t56
 (R (.returned (.bool false)) w)
 (Ld P 28 t9 w fun t57 w =>
 Al P 28 w fun t15 w =>
 Sto P 28 t15 t57 w fun w =>
 Lp3 (.int .i64 0) (.int .i64 0) (.int .i64 0) w (fun t16 t17 t18 w k1 =>
 Bt P .len #[33] 3 #[t3] w fun t60 w =>
 Bn P .leq 3 false t18 t60 w fun t61 w =>
 Gd t61 true (fun k => k t18 w) w fun t63 w =>
 Gd t61 true (fun k => Bn P .lss 3 true t63 (.int .i64 10) w k) w fun t64 w =>
 Pick t61 t64 (.bool false) w fun t65 w =>
 If t65
 (Bt P .len #[31] 3 #[t43] w fun t69 w =>
 Jn1 (fun k2 =>
 Bt P .len #[33] 3 #[t3] w fun t72 w =>
 Bn P .lss 3 false t18 t72 w fun t73 w =>
 Gd t73 true (fun k => k t18 w) w fun t75 w =>
 Gd t73 true (fun k => Bn P .lss 3 true t75 (.int .i64 9) w k) w fun t76 w =>
 Pick t73 t76 (.bool false) w fun t77 w =>
 If t77
 (Ia P 33 t3 t18 w fun t81 w =>
 Ld P 3 t81 w fun t82 w =>
 Bt P .len #[31] 3 #[t43] w fun t84 w =>
 Bn P .sub 3 false t84 t16 w fun t86 w =>
 Bn P .add 3 true t86 (.int .i64 1) w fun t87 w =>
 Cl P 27 #[t82, t87] w (Pk R) fun t88 w =>
 Bn P .add 3 false t16 t88 w fun t89 w =>
 k2 t89 w)
 (k2 t69 w))
 (fun t19 w =>
 Jn3 (fun k3 =>
 dL P 28 t15 w.drew fun t91 =>
 Dv P true (Instr.sliceAt 31 t43 (some t16) (some t19) none) w.drew fun t95 =>
 (Cl P 24 #[t91, t95] w.drew (Pk R) fun t96 w =>
 ExP t96 0 fun t97 =>
 ExP t96 1 fun t98 =>
 ExP t96 2 fun t99 =>
 Al P 28 w fun t20 w =>
 kLd P 28 t15 t91 w <|
 Sto P 28 t20 t97 w fun w =>
 k3 t20 t98 t99 w) ∧
 (Al P 28 w.drew fun t20x1 w =>
 kLd P 28 t15 t91 w <|
 Cl P 24 #[t91, t95] w (Pk R) fun t96x1 w =>
 ExP t96x1 0 fun t97x1 =>
 ExP t96x1 1 fun t98x1 =>
 ExP t96x1 2 fun t99x1 =>
 Sto P 28 t20x1 t97x1 w fun w =>
 k3 t20x1 t98x1 t99x1 w))
 (fun t20x2 t21 t22 w =>
 Jn3 (fun k4 =>
 dL P 28 t20x2 w.drew fun t101 =>
 Dv P true (Instr.sliceAt 31 t43 none (some t19) none) w.drew fun t104 =>
 (Cl P 24 #[t101, t104] w.drew (Pk R) fun t105 w =>
 ExP t105 0 fun t106 =>
 ExP t105 1 fun t107 =>
 ExP t105 2 fun t108 =>
 Al P 28 w fun t23 w =>
 kLd P 28 t20x2 t101 w <|
 Sto P 28 t23 t106 w fun w =>
 k4 t23 t107 t108 w) ∧
 (Al P 28 w.drew fun t23x1 w =>
 kLd P 28 t20x2 t101 w <|
 Cl P 24 #[t101, t104] w (Pk R) fun t105x1 w =>
 ExP t105x1 0 fun t106x1 =>
 ExP t105x1 1 fun t107x1 =>
 ExP t105x1 2 fun t108x1 =>
 Sto P 28 t23x1 t106x1 w fun w =>
 k4 t23x1 t107x1 t108x1 w))
 (fun t23x2 t24 t25 w =>
 Bn P .neq 46 true t22 (.int .i64 0) w fun t110 w =>
 Gd t110 false (fun k => k t25 w) w fun t112 w =>
 Gd t110 false (fun k => Bn P .neq 46 true t112 (.int .i64 0) w k) w fun t113 w =>
 Pick t110 (.bool true) t113 w fun t114 w =>
 Gd t114 false (fun k => Ld P 28 t20x2 w k) w fun t116 w =>
 Gd t114 false (fun k => Ld P 28 t23x2 w k) w fun t117 w =>
 Gd t114 false (fun k => Cl P 15 #[t116, t117] w (Pk R) k) w fun t118 w =>
 Gd t114 false (fun k => Un P .not t118 w k) w fun t119 w =>
 Pick t114 (.bool true) t119 w fun t120 w =>
 Gd t120 false (fun k => k t24 w) w fun t122 w =>
 Gd t120 false (fun k => Bt P .len #[33] 3 #[t122] w k) w fun t123 w =>
 Gd t120 false (fun k => Bn P .gtr 3 true t123 (.int .i64 0) w k) w fun t124 w =>
 Pick t120 (.bool true) t124 w fun t125 w =>
 If t125
 (R (.returned (.bool false)) w)
 (Ld P 28 t20x2 w fun t126 w =>
 Sto P 28 t15 t126 w fun w =>
 Bt P .len #[33] 3 #[t21] w fun t130 w =>
 Bn P .add 3 false t17 t130 w fun t131 w =>
 Bn P .add 3 true t18 (.int .i64 1) w fun t67 w =>
 k1 t19 t131 t67 w)))))
 (Ld P 28 t15 w fun t132 w =>
 Ld P 28 t12 w fun t133 w =>
 Cl P 15 #[t132, t133] w (Pk R) fun t134 w =>
 Un P .not t134 w fun t135 w =>
 Gd t135 false (fun k => k t17 w) w fun t137 w =>
 Gd t135 false (fun k => k t49 w) w fun t138 w =>
 Gd t135 false (fun k => Bt P .len #[33] 3 #[t138] w k) w fun t139 w =>
 Gd t135 false (fun k => Bn P .neq 3 false t137 t139 w k) w fun t140 w =>
 Pick t135 (.bool true) t140 w fun t141 w =>
 If t141
 (R (.returned (.bool false)) w)
 (Lp1 (.int .i64 0) w (fun t26 w k5 =>
 Fa P 28 t9 1 w fun t143 w =>
 Ld P 26 t143 w fun t144 w =>
 Bt P .len #[26] 3 #[t144] w fun t145 w =>
 Bn P .lss 3 false t26 t145 w fun t146 w =>
 If t146
 (Fa P 28 t9 1 w fun t149 w =>
 Ld P 26 t149 w fun t150 w =>
 Ia P 26 t150 t26 w fun t152 w =>
 Ld P 30 t152 w fun t153 w =>
 Al P 30 w fun t27 w =>
 Sto P 30 t27 t153 w fun w =>
 Lp2 (.slice none 0 0) (.int .i64 0) w (fun t28 t29 w k6 =>
 Bt P .len #[31] 3 #[t43] w fun t156 w =>
 Bn P .lss 3 false t29 t156 w fun t157 w =>
 If t157
 (dIx P 31 t43 t29 w.drew fun t162 =>
 dFl P 65 t162 4 w.drew fun t163 =>
 dL P 3 t163 w.drew fun t164 =>
 dFl P 30 t27 0 w.drew fun t165 =>
 dL P 3 t165 w.drew fun t166 =>
 Dv P true (bn .eql 3 false t164 t166) w.drew fun t167 =>
 GdP t167 true (fun k => k t43) fun t169 =>
 GdP t167 true (fun k => k t29) fun t170 =>
 GdP t167 true (fun k => dIx P 31 t169 t170 w.drew k) fun t171 =>
 GdP t167 true (fun k => dFl P 65 t171 3 w.drew k) fun t172 =>
 GdP t167 true (fun k => dL P 3 t172 w.drew k) fun t173 =>
 GdP t167 true (fun k => dFl P 30 t27 1 w.drew k) fun t174 =>
 GdP t167 true (fun k => dL P 3 t174 w.drew k) fun t175 =>
 GdP t167 true (fun k => Dv P true (bn .eql 3 false t173 t175) w.drew k) fun t176 =>
 PickP t167 t176 (.bool false) fun t177 =>
 If t177
 (Ia P 31 t43 t29 w.drew fun t181 w =>
 Ld P 65 t181 w fun t182 w =>
 Bs P 31 1 [(0, t182)] w fun t183 w =>
 Bt P .append #[31, 31] 31 #[t28, t183] w fun t184 w =>
 Bn P .add 3 true t29 (.int .i64 1) w fun t159 w =>
 k6 t184 t159 w)
 (Bn P .add 3 true t29 (.int .i64 1) w.drew fun t159x1 w =>
 k6 t28 t159x1 w))
 (Ld P 28 t9 w fun t186 w =>
 Cl P 24 #[t186, t28] w (Pk R) fun t188 w =>
 Ex t188 0 w fun t189 w =>
 Ex t188 1 w fun t190 w =>
 Ex t188 2 w fun t191 w =>
 Al P 28 w fun t30 w =>
 Sto P 28 t30 t189 w fun w =>
 Bn P .neq 46 true t191 (.int .i64 0) w fun t193 w =>
 Gd t193 false (fun k => k t26 w) w fun t195 w =>
 Gd t193 false (fun k => Fa P 28 t30 1 w k) w fun t196 w =>
 Gd t193 false (fun k => Ld P 26 t196 w k) w fun t197 w =>
 Gd t193 false (fun k => Bt P .len #[26] 3 #[t197] w k) w fun t198 w =>
 Gd t193 false (fun k => Bn P .geq 3 false t195 t198 w k) w fun t199 w =>
 Pick t193 (.bool true) t199 w fun t200 w =>
 Gd t200 false (fun k => k t26 w) w fun t202 w =>
 Gd t200 false (fun k => Fa P 28 t12 1 w k) w fun t203 w =>
 Gd t200 false (fun k => Ld P 26 t203 w k) w fun t204 w =>
 Gd t200 false (fun k => Bt P .len #[26] 3 #[t204] w k) w fun t205 w =>
 Gd t200 false (fun k => Bn P .geq 3 false t202 t205 w k) w fun t206 w =>
 Pick t200 (.bool true) t206 w fun t207 w =>
 If t207
 (R (.returned (.bool false)) w)
 (Fa P 28 t30 1 w fun t208 w =>
 Ld P 26 t208 w fun t209 w =>
 Ia P 26 t209 t26 w fun t211 w =>
 Ld P 30 t211 w fun t212 w =>
 Al P 30 w fun t33 w =>
 Sto P 30 t33 t212 w fun w =>
 Fa P 28 t12 1 w fun t213 w =>
 Ld P 26 t213 w fun t214 w =>
 Ia P 26 t214 t26 w fun t216 w =>
 Fa P 30 t216 7 w fun t217 w =>
 Ld P 3 t217 w fun t218 w =>
 Fa P 30 t33 7 w fun t219 w =>
 Sto P 3 t219 t218 w fun w =>
 dL P 30 t33 w.drew fun t220 =>
 dFl P 28 t12 1 w.drew fun t221 =>
 dL P 26 t221 w.drew fun t222 =>
 dIx P 26 t222 t26 w.drew fun t224 =>
 dL P 30 t224 w.drew fun t225 =>
 Dv P false (bn .neq 30 false t220 t225) w.drew fun t226 =>
 If t226
 (R (.returned (.bool false)) w.drew)
 (Bn P .add 3 true t26 (.int .i64 1) w.drew fun t148 w =>
 k5 t148 w)))))
 (R (.returned (.bool true)) w)))))))
theorem e_law28_AlarmPortions (h : s_law28_AlarmPortions Tryz.prog t0 t1 t2 t3 w R) : Calls Tryz.prog 7 #[t0, t1, t2, t3] w R :=
 en1 (.sq .z (.sq (.sq .z (.cd (.sq .z .z) .z)) (.sq .z (.sq .z (.sq .z (.sq (.sq .z (.cd (.sq .z .z) .z)) (.sq .z (.sq .z (.sq .z (.sq (.sq .z (.bk (.lp [16, 17, 18] [8, 19, 20, 21, 22, 23, 24, 25, 58, 59, 60, 61, 62, 63, 64, 65, 66, 67, 68, 69, 70, 71, 72, 73, 74, 75, 76, 77, 78, 79, 80, 81, 82, 83, 84, 85, 86, 87, 88, 89, 90, 91, 92, 93, 94, 95, 96, 97, 98, 99, 100, 101, 102, 103, 104, 105, 106, 107, 108, 109, 110, 111, 112, 113, 114, 115, 116, 117, 118, 119, 120, 121, 122, 123, 124, 125, 126, 127, 128, 129, 130, 131] (.sq (.sq .z (.cd .z .z)) (.sq (.bk (.sq .z (.jn [19] [70, 71, 72, 73, 74, 75, 76, 77, 78, 79, 80, 81, 82, 83, 84, 85, 86, 87, 88, 89] (.sq .z (.cd .z .z)) (.jn [20, 21, 22] [90, 91, 92, 93, 94, 95, 96, 97, 98, 99] (.dr (.pur false 0 (.pur true 1 (.pur true 2 (.pur true 3 (.pur true 4 (.alt (.eff 5 [] (.pur true 6 (.pur true 7 (.pur true 8 (.pur true 9 (.eff 10 [0] (.eff 11 [] (.pur true 12 (.pur true 13 .done))))))))) (.eff 10 [0] (.eff 5 [] (.pur true 6 (.pur true 7 (.pur true 8 (.pur true 9 (.eff 11 [] (.pur true 12 (.pur true 13 .done)))))))))))))))) (.jn [23, 24, 25] [100, 101, 102, 103, 104, 105, 106, 107, 108] (.dr (.pur false 0 (.pur true 1 (.pur true 2 (.pur true 3 (.alt (.eff 4 [] (.pur true 5 (.pur true 6 (.pur true 7 (.pur true 8 (.eff 9 [0] (.eff 10 [] (.pur true 11 (.pur true 12 .done))))))))) (.eff 9 [0] (.eff 4 [] (.pur true 5 (.pur true 6 (.pur true 7 (.pur true 8 (.eff 10 [] (.pur true 11 (.pur true 12 .done))))))))))))))) (.sq (.sq .z (.cd (.sq .z .z) .z)) (.sq .z (.sq .z .z)))))))) .z))))) (.sq (.sq .z (.cd (.sq .z .z) .z)) (.sq (.sq .z (.bk (.lp [26] [8, 27, 28, 29, 30, 31, 32, 33, 142, 143, 144, 145, 146, 147, 148, 149, 150, 151, 152, 153, 154, 155, 156, 157, 158, 159, 160, 161, 162, 163, 164, 165, 166, 167, 168, 169, 170, 171, 172, 173, 174, 175, 176, 177, 178, 179, 180, 181, 182, 183, 184, 185, 186, 187, 188, 189, 190, 191, 192, 193, 194, 195, 196, 197, 198, 199, 200, 201, 202, 203, 204, 205, 206, 207, 208, 209, 210, 211, 212, 213, 214, 215, 216, 217, 218, 219, 220, 221, 222, 223, 224, 225, 226] (.sq (.sq .z (.cd .z .z)) (.sq (.bk (.sq .z (.sq .z (.sq (.sq .z (.bk (.lp [28, 29] [154, 155, 156, 157, 158, 159, 160, 161, 162, 163, 164, 165, 166, 167, 168, 169, 170, 171, 172, 173, 174, 175, 176, 177, 178, 179, 180, 181, 182, 183, 184] (.sq (.sq .z (.cd .z .z)) (.sq (.bk (.sq (.dr (.pur true 0 (.pur true 1 (.pur true 2 (.pur true 3 (.pur false 4 (.pur true 5 (.pur false 6 (.pur true 7 (.pur true 8 (.pur true 9 (.pur true 10 (.pur true 11 (.pur true 12 (.pur false 13 (.pur true 14 (.pur false 15 (.pur true 16 (.pur true 17 .done))))))))))))))))))) (.cd .z .z))) .z))))) (.sq .z (.sq (.sq .z (.cd (.sq .z .z) .z)) (.sq .z (.sq .z (.sq (.dr (.pur false 0 (.pur true 1 (.pur false 2 (.pur true 3 (.pur true 4 (.pur false 5 (.pur false 6 .done)))))))) (.cd (.sq .z .z) .z)))))))))) .z))))) (.sq .z .z))))))))))))) [t0, t1, t2, t3] Tryz.func7 (by kernel_rfl) (by kernel_rfl) h
end Go.Proofs.YtnkmbjedcjcccaaGreatDoor
