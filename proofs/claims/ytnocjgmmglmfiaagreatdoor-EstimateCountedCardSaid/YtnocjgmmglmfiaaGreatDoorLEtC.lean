/-
  Contracts and plain lemmas. By an AI agent.
-/
import Derived.Test.YtnocjgmmglmfiaaGreatDoorEng
import Derived.Test.YtnocjgmmglmfiaaGreatDoorProg
set_option linter.unusedSimpArgs false
set_option linter.unusedVariables false
set_option linter.unusedSectionVars false
namespace Go.Proofs.YtnocjgmmglmfiaaGreatDoor
open Go Go.Eng Go.Shelf
set_option maxRecDepth 100000
set_option linter.unusedVariables false
def s_law16_EstimateCounted (P : Program) (t0 : Value) (w : World) (R : Ending → World → Prop) : Prop :=
 Cl P 11 #[] w (Pk R) fun t38 w =>
 Un P .not t38 w fun t39 w =>
 If t39
 (R (.returned (.bool false)) w)
 (Lp4 (.slice none 0 0) (.slice none 0 0) (.slice none 0 0) (.int .i64 0) w (fun t3 t4 t5 t6 w k1 =>
 Bt P .len #[43] 3 #[t0] w fun t42 w =>
 Bn P .lss 3 false t6 t42 w fun t43 w =>
 Gd t43 true (fun k => k t6 w) w fun t45 w =>
 Gd t43 true (fun k => Bn P .lss 3 true t45 (.int .i64 4) w k) w fun t46 w =>
 Pick t43 t46 (.bool false) w fun t47 w =>
 If t47
 (Ia P 43 t0 t6 w fun t52 w =>
 Ia P 46 t52 (.int .i64 1) w fun t53 w =>
 Ld P 3 t53 w fun t54 w =>
 Cl P 23 #[t54, (.int .i64 4)] w (Pk R) fun t55 w =>
 Bn P .add 3 true (.int .i64 1) t55 w fun t56 w =>
 Ia P 43 t0 t6 w fun t60 w =>
 Ia P 46 t60 (.int .i64 0) w fun t61 w =>
 Ld P 3 t61 w fun t62 w =>
 Cl P 23 #[t62, (.int .i64 21)] w (Pk R) fun t63 w =>
 Bn P .sub 3 true t63 (.int .i64 5) w fun t64 w =>
 Cl P 22 #[t64, (.int .i64 1)] w (Pk R) fun t65 w =>
 Bs P 23 1 [(0, t65)] w fun t66 w =>
 Bt P .append #[23, 23] 23 #[t3, t66] w fun t67 w =>
 Cl P 22 #[t56, (.int .i64 4)] w (Pk R) fun t70 w =>
 Bs P 23 1 [(0, t70)] w fun t71 w =>
 Bt P .append #[23, 23] 23 #[t4, t71] w fun t72 w =>
 Bs P 44 1 [(0, t56)] w fun t75 w =>
 Bt P .append #[44, 44] 44 #[t5, t75] w fun t76 w =>
 Bn P .add 3 true t6 (.int .i64 1) w fun t49 w =>
 k1 t67 t72 t76 t49 w)
 (Lp2 (.int .i64 1) (.int .i64 0) w (fun t8 t9 w k2 =>
 Bt P .len #[23] 3 #[t3] w fun t79 w =>
 Bn P .lss 3 false t9 t79 w fun t80 w =>
 If t80
 (Bn P .mul 3 true t8 (.int .i64 4) w fun t84 w =>
 Bn P .add 3 true t9 (.int .i64 1) w fun t82 w =>
 k2 t84 t82 w)
 (Cl P 22 #[(.int .i64 0), (.int .i64 1)] w (Pk R) fun t85 w =>
 Al P 30 w fun t10 w =>
 Sto P 30 t10 t85 w fun w =>
 Cl P 22 #[(.int .i64 0), (.int .i64 1)] w (Pk R) fun t86 w =>
 Al P 30 w fun t11 w =>
 Sto P 30 t11 t86 w fun w =>
 Lp1 (.int .i64 0) w (fun t12 w k3 =>
 Bn P .lss 3 false t12 t8 w fun t89 w =>
 If t89
 (Lp4 (.slice none 0 0) (.slice none 0 0) t12 (.int .i64 0) w (fun t13 t14 t15 t16 w k4 =>
 Bt P .len #[23] 3 #[t3] w fun t95 w =>
 Bn P .lss 3 false t16 t95 w fun t96 w =>
 If t96
 (Bn P .rem 3 true t15 (.int .i64 4) w fun t100 w =>
 Ia P 44 t5 t16 w fun t103 w =>
 Ld P 3 t103 w fun t104 w =>
 Bn P .lss 3 false t100 t104 w fun t105 w =>
 If t105
 (Ia P 23 t3 t16 w fun t109 w =>
 Ld P 30 t109 w fun t110 w =>
 Bs P 23 1 [(0, t110)] w fun t111 w =>
 Bt P .append #[23, 23] 23 #[t13, t111] w fun t112 w =>
 Ia P 23 t4 t16 w fun t116 w =>
 Ld P 30 t116 w fun t117 w =>
 Bs P 23 1 [(0, t117)] w fun t118 w =>
 Bt P .append #[23, 23] 23 #[t14, t118] w fun t119 w =>
 Bn P .quo 3 true t15 (.int .i64 4) w fun t121 w =>
 Bn P .add 3 true t16 (.int .i64 1) w fun t98 w =>
 k4 t112 t119 t121 t98 w)
 (Bn P .quo 3 true t15 (.int .i64 4) w fun t121x1 w =>
 Bn P .add 3 true t16 (.int .i64 1) w fun t98x1 w =>
 k4 t13 t14 t121x1 t98x1 w))
 (Cl P 14 #[t13, t14] w (Pk R) fun t125 w =>
 Ex t125 0 w fun t126 w =>
 Ex t125 1 w fun t127 w =>
 Ex t125 2 w fun t128 w =>
 Al P 30 w fun t17 w =>
 Al P 30 w fun t18 w =>
 Sto P 30 t17 t126 w fun w =>
 Sto P 30 t18 t127 w fun w =>
 Ld P 30 t17 w fun t130 w =>
 Ld P 30 t17 w fun t131 w =>
 Cl P 24 #[t130, t131] w (Pk R) fun t132 w =>
 Ex t132 0 w fun t133 w =>
 Ex t132 1 w fun t134 w =>
 Al P 30 w fun t20 w =>
 Sto P 30 t20 t133 w fun w =>
 Ld P 30 t10 w fun t136 w =>
 Ld P 30 t17 w fun t137 w =>
 Cl P 25 #[t136, t137] w (Pk R) fun t138 w =>
 Ex t138 0 w fun t139 w =>
 Ex t138 1 w fun t140 w =>
 Al P 30 w fun t22 w =>
 Sto P 30 t22 t139 w fun w =>
 Ld P 30 t11 w fun t142 w =>
 Ld P 30 t20 w fun t143 w =>
 Cl P 25 #[t142, t143] w (Pk R) fun t144 w =>
 Ex t144 0 w fun t145 w =>
 Ex t144 1 w fun t146 w =>
 Al P 30 w fun t24 w =>
 Sto P 30 t24 t145 w fun w =>
 Bn P .neq 31 true t128 (.int .i64 0) w fun t148 w =>
 Gd t148 false (fun k => k t134 w) w fun t150 w =>
 Gd t148 false (fun k => Bn P .neq 31 true t150 (.int .i64 0) w k) w fun t151 w =>
 Pick t148 (.bool true) t151 w fun t152 w =>
 Gd t152 false (fun k => k t140 w) w fun t154 w =>
 Gd t152 false (fun k => Bn P .neq 31 true t154 (.int .i64 0) w k) w fun t155 w =>
 Pick t152 (.bool true) t155 w fun t156 w =>
 Gd t156 false (fun k => k t146 w) w fun t158 w =>
 Gd t156 false (fun k => Bn P .neq 31 true t158 (.int .i64 0) w k) w fun t159 w =>
 Pick t156 (.bool true) t159 w fun t160 w =>
 If t160
 (R (.returned (.bool false)) w)
 (Ld P 30 t22 w fun t161 w =>
 Sto P 30 t10 t161 w fun w =>
 Ld P 30 t24 w fun t162 w =>
 Sto P 30 t11 t162 w fun w =>
 Bn P .add 3 true t12 (.int .i64 1) w fun t91 w =>
 k3 t91 w))))
 (Jn2 (fun k5 =>
 Dv P false (Instr.loadAt 30 t10) w.drew fun t164 =>
 (Cl P 22 #[t8, (.int .i64 1)] w.drew (Pk R) fun t166 w =>
 Ke P (Instr.loadAt 30 t10) t164 w <|
 (Cl P 26 #[t164, t166] w (Pk R) fun t167 w =>
 ExP t167 0 fun t168 =>
 ExP t167 1 fun t169 =>
 Al P 30 w fun t26 w =>
 Ke P (Instr.loadAt 30 t10) t164 w <|
 Sto P 30 t26 t168 w fun w =>
 k5 t26 t169 w) ∧
 (Al P 30 w fun t26x1 w =>
 Ke P (Instr.loadAt 30 t10) t164 w <|
 Cl P 26 #[t164, t166] w (Pk R) fun t167x1 w =>
 ExP t167x1 0 fun t168x1 =>
 ExP t167x1 1 fun t169x1 =>
 Sto P 30 t26x1 t168x1 w fun w =>
 k5 t26x1 t169x1 w)) ∧
 (Al P 30 w.drew fun t26x2 w =>
 Ke P (Instr.loadAt 30 t10) t164 w <|
 Cl P 22 #[t8, (.int .i64 1)] w (Pk R) fun t166x1 w =>
 Ke P (Instr.loadAt 30 t10) t164 w <|
 Cl P 26 #[t164, t166x1] w (Pk R) fun t167x2 w =>
 ExP t167x2 0 fun t168x2 =>
 ExP t167x2 1 fun t169x2 =>
 Sto P 30 t26x2 t168x2 w fun w =>
 k5 t26x2 t169x2 w))
 (fun t26x3 t27 w =>
 Jn2 (fun k6 =>
 Dv P false (Instr.loadAt 30 t11) w.drew fun t171 =>
 (Cl P 22 #[t8, (.int .i64 1)] w.drew (Pk R) fun t173 w =>
 Ke P (Instr.loadAt 30 t11) t171 w <|
 (Cl P 26 #[t171, t173] w (Pk R) fun t174 w =>
 ExP t174 0 fun t175 =>
 ExP t174 1 fun t176 =>
 Al P 30 w fun t28 w =>
 Ke P (Instr.loadAt 30 t11) t171 w <|
 Sto P 30 t28 t175 w fun w =>
 k6 t28 t176 w) ∧
 (Al P 30 w fun t28x1 w =>
 Ke P (Instr.loadAt 30 t11) t171 w <|
 Cl P 26 #[t171, t173] w (Pk R) fun t174x1 w =>
 ExP t174x1 0 fun t175x1 =>
 ExP t174x1 1 fun t176x1 =>
 Sto P 30 t28x1 t175x1 w fun w =>
 k6 t28x1 t176x1 w)) ∧
 (Al P 30 w.drew fun t28x2 w =>
 Ke P (Instr.loadAt 30 t11) t171 w <|
 Cl P 22 #[t8, (.int .i64 1)] w (Pk R) fun t173x1 w =>
 Ke P (Instr.loadAt 30 t11) t171 w <|
 Cl P 26 #[t171, t173x1] w (Pk R) fun t174x2 w =>
 ExP t174x2 0 fun t175x2 =>
 ExP t174x2 1 fun t176x2 =>
 Sto P 30 t28x2 t175x2 w fun w =>
 k6 t28x2 t176x2 w))
 (fun t28x3 t29 w =>
 Ld P 30 t26x3 w fun t178 w =>
 Ld P 30 t26x3 w fun t179 w =>
 Cl P 24 #[t178, t179] w (Pk R) fun t180 w =>
 Ex t180 0 w fun t181 w =>
 Ex t180 1 w fun t182 w =>
 Al P 30 w fun t30 w =>
 Sto P 30 t30 t181 w fun w =>
 Ld P 30 t28x3 w fun t184 w =>
 Ld P 30 t30 w fun t185 w =>
 Cl P 27 #[t184, t185] w (Pk R) fun t186 w =>
 Ex t186 0 w fun t187 w =>
 Ex t186 1 w fun t188 w =>
 Al P 30 w fun t32 w =>
 Sto P 30 t32 t187 w fun w =>
 Cl P 20 #[t3] w (Pk R) fun t191 w =>
 Ex t191 0 w fun t192 w =>
 Ex t191 1 w fun t193 w =>
 Al P 30 w fun t34 w =>
 Sto P 30 t34 t192 w fun w =>
 Cl P 16 #[t3, t4] w (Pk R) fun t197 w =>
 Ex t197 0 w fun t198 w =>
 Ex t197 1 w fun t199 w =>
 Al P 30 w fun t36 w =>
 Sto P 30 t36 t198 w fun w =>
 Bn P .eql 31 true t27 (.int .i64 0) w fun t201 w =>
 Gd t201 true (fun k => k t29 w) w fun t203 w =>
 Gd t201 true (fun k => Bn P .eql 31 true t203 (.int .i64 0) w k) w fun t204 w =>
 Pick t201 t204 (.bool false) w fun t205 w =>
 Gd t205 true (fun k => k t182 w) w fun t207 w =>
 Gd t205 true (fun k => Bn P .eql 31 true t207 (.int .i64 0) w k) w fun t208 w =>
 Pick t205 t208 (.bool false) w fun t209 w =>
 Gd t209 true (fun k => k t188 w) w fun t211 w =>
 Gd t209 true (fun k => Bn P .eql 31 true t211 (.int .i64 0) w k) w fun t212 w =>
 Pick t209 t212 (.bool false) w fun t213 w =>
 Gd t213 true (fun k => k t193 w) w fun t215 w =>
 Gd t213 true (fun k => Bn P .eql 31 true t215 (.int .i64 0) w k) w fun t216 w =>
 Pick t213 t216 (.bool false) w fun t217 w =>
 Gd t217 true (fun k => k t199 w) w fun t219 w =>
 Gd t217 true (fun k => Bn P .eql 31 true t219 (.int .i64 0) w k) w fun t220 w =>
 Pick t217 t220 (.bool false) w fun t221 w =>
 Gd t221 true (fun k => Ld P 30 t26x3 w k) w fun t223 w =>
 Gd t221 true (fun k => Ld P 30 t34 w k) w fun t224 w =>
 Gd t221 true (fun k => Bn P .eql 30 false t223 t224 w k) w fun t225 w =>
 Pick t221 t225 (.bool false) w fun t226 w =>
 Gd t226 true (fun k => Ld P 30 t32 w k) w fun t228 w =>
 Gd t226 true (fun k => Ld P 30 t36 w k) w fun t229 w =>
 Gd t226 true (fun k => Bn P .eql 30 false t228 t229 w k) w fun t230 w =>
 Pick t226 t230 (.bool false) w fun t231 w =>
 R (.returned t231) w)))))))))
theorem e_law16_EstimateCounted {t0 : Value} {w : World} {R : Ending → World → Prop} (h : s_law16_EstimateCounted Tryz.prog t0 w R) : Calls Tryz.prog 6 #[t0] w R :=
 enter (h := (.sq .z (.sq (.sq .z (.cd (.sq .z .z) .z)) (.sq .z (.sq .z (.sq .z (.sq (.sq .z (.bk (.lp [3, 4, 5, 6] [7, 40, 41, 42, 43, 44, 45, 46, 47, 48, 49, 50, 51, 52, 53, 54, 55, 56, 57, 58, 59, 60, 61, 62, 63, 64, 65, 66, 67, 68, 69, 70, 71, 72, 73, 74, 75, 76] (.sq (.sq .z (.cd .z .z)) (.sq (.bk (.sq .z (.sq .z (.sq .z .z)))) .z))))) (.sq .z (.sq (.sq .z (.bk (.lp [8, 9] [77, 78, 79, 80, 81, 82, 83, 84] (.sq (.sq .z (.cd .z .z)) (.sq (.bk .z) .z))))) (.sq .z (.sq .z (.sq (.sq .z (.bk (.lp [12] [2, 13, 14, 15, 16, 17, 18, 19, 20, 21, 22, 23, 24, 25, 87, 88, 89, 90, 91, 92, 93, 94, 95, 96, 97, 98, 99, 100, 101, 102, 103, 104, 105, 106, 107, 108, 109, 110, 111, 112, 113, 114, 115, 116, 117, 118, 119, 120, 121, 122, 123, 124, 125, 126, 127, 128, 129, 130, 131, 132, 133, 134, 135, 136, 137, 138, 139, 140, 141, 142, 143, 144, 145, 146, 147, 148, 149, 150, 151, 152, 153, 154, 155, 156, 157, 158, 159, 160, 161, 162] (.sq (.sq .z (.cd .z .z)) (.sq (.bk (.sq .z (.sq .z (.sq .z (.sq (.sq .z (.bk (.lp [13, 14, 15, 16] [93, 94, 95, 96, 97, 98, 99, 100, 101, 102, 103, 104, 105, 106, 107, 108, 109, 110, 111, 112, 113, 114, 115, 116, 117, 118, 119, 120, 121] (.sq (.sq .z (.cd .z .z)) (.sq (.bk (.sq (.sq .z (.cd (.sq .z .z) .z)) .z)) .z))))) (.sq .z (.sq .z (.sq .z (.sq .z (.sq (.sq .z (.cd (.sq .z .z) .z)) (.sq .z .z))))))))))) .z))))) (.jn [26, 27] [163, 164, 165, 166, 167, 168, 169] (.dr (.pur false 0 (.pur true 1 (.alt (.eff 2 [0] (.alt (.eff 3 [] (.pur true 4 (.pur true 5 (.pur true 6 (.eff 7 [0] (.eff 8 [] (.pur true 9 .done))))))) (.eff 7 [0] (.eff 3 [] (.pur true 4 (.pur true 5 (.pur true 6 (.eff 8 [] (.pur true 9 .done))))))))) (.eff 7 [0] (.eff 2 [0] (.eff 3 [] (.pur true 4 (.pur true 5 (.pur true 6 (.eff 8 [] (.pur true 9 .done)))))))))))) (.jn [28, 29] [170, 171, 172, 173, 174, 175, 176] (.dr (.pur false 0 (.pur true 1 (.alt (.eff 2 [0] (.alt (.eff 3 [] (.pur true 4 (.pur true 5 (.pur true 6 (.eff 7 [0] (.eff 8 [] (.pur true 9 .done))))))) (.eff 7 [0] (.eff 3 [] (.pur true 4 (.pur true 5 (.pur true 6 (.eff 8 [] (.pur true 9 .done))))))))) (.eff 7 [0] (.eff 2 [0] (.eff 3 [] (.pur true 4 (.pur true 5 (.pur true 6 (.eff 8 [] (.pur true 9 .done)))))))))))) (.sq .z (.sq .z (.sq .z (.sq .z (.sq .z .z))))))))))))))))))) (args := [t0]) Tryz.func6 (by kernel_rfl) (by kernel_rfl) (by kernel_rfl) (Eq.mp (by kernel_rfl) h)
end Go.Proofs.YtnocjgmmglmfiaaGreatDoor
