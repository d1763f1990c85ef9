/-
  Contracts and plain lemmas. By an AI agent.
-/
import Derived.Test.YtnocjgmmglmfiaaGreatDoorEng
import Derived.Test.YtnocjgmmglmfiaaGreatDoorProg
set_option linter.unusedSimpArgs false
set_option linter.unusedVariables false
set_option linter.unusedSectionVars false
namespace Go.Proofs.YtnocjgmmglmfiaaGreatDoor
open Go Go.Eng Go.Shelf
set_option maxRecDepth 100000
set_option linter.unusedVariables false
def s_law16_EstimateScales (P : Program) (t0 t1 t2 : Value) (w : World) (R : Ending → World → Prop) : Prop :=
 Cl P 11 #[] w (Pk R) fun t37 w =>
 Un P .not t37 w fun t38 w =>
 If t38
 (R (.returned (.bool false)) w)
 (Cl P 12 #[t0, (.int .i64 10)] w (Pk R) fun t41 w =>
 Ex t41 0 w fun t42 w =>
 Ex t41 1 w fun t43 w =>
 Cl P 23 #[t1, (.int .i64 31)] w (Pk R) fun t45 w =>
 Bn P .sub 3 true t45 (.int .i64 15) w fun t46 w =>
 Cl P 23 #[t2, (.int .i64 6)] w (Pk R) fun t48 w =>
 Bn P .add 3 true (.int .i64 1) t48 w fun t49 w =>
 Cl P 22 #[t46, t49] w (Pk R) fun t50 w =>
 Al P 30 w fun t9 w =>
 Sto P 30 t9 t50 w fun w =>
 Ld P 30 t9 w fun t52 w =>
 Ld P 30 t9 w fun t53 w =>
 Cl P 24 #[t52, t53] w (Pk R) fun t54 w =>
 Ex t54 0 w fun t55 w =>
 Ex t54 1 w fun t56 w =>
 Al P 30 w fun t10 w =>
 Sto P 30 t10 t55 w fun w =>
 Bn P .neq 31 true t56 (.int .i64 0) w fun t58 w =>
 If t58
 (R (.returned (.bool false)) w)
 (Lp4 (.slice none 0 0) (.slice none 0 0) (.slice none 0 0) (.int .i64 0) w (fun t12 t13 t14 t15 w k1 =>
 Bt P .len #[23] 3 #[t42] w fun t61 w =>
 Bn P .lss 3 false t15 t61 w fun t62 w =>
 If t62
 (Jn2 (fun k2 =>
 Dv P true (Instr.indexAt 23 t42 t15) w.drew fun t68 =>
 Dv P false (Instr.loadAt 30 t68) w.drew fun t69 =>
 Dv P false (Instr.loadAt 30 t9) w.drew fun t70 =>
 (Cl P 24 #[t69, t70] w.drew (Pk R) fun t71 w =>
 ExP t71 0 fun t72 =>
 ExP t71 1 fun t73 =>
 Al P 30 w fun t16 w =>
 Ke P (Instr.loadAt 30 t68) t69 w <|
 Ke P (Instr.loadAt 30 t9) t70 w <|
 Sto P 30 t16 t72 w fun w =>
 k2 t16 t73 w) ∧
 (Al P 30 w.drew fun t16x1 w =>
 Ke P (Instr.loadAt 30 t68) t69 w <|
 Ke P (Instr.loadAt 30 t9) t70 w <|
 Cl P 24 #[t69, t70] w (Pk R) fun t71x1 w =>
 ExP t71x1 0 fun t72x1 =>
 ExP t71x1 1 fun t73x1 =>
 Sto P 30 t16x1 t72x1 w fun w =>
 k2 t16x1 t73x1 w))
 (fun t16x2 t17 w =>
 Bn P .neq 31 true t17 (.int .i64 0) w fun t75 w =>
 If t75
 (R (.returned (.bool false)) w)
 (Ld P 30 t16x2 w fun t77 w =>
 Bs P 23 1 [(0, t77)] w fun t78 w =>
 Bt P .append #[23, 23] 23 #[t12, t78] w fun t79 w =>
 Bt P .len #[23] 3 #[t42] w fun t83 w =>
 Bn P .sub 3 true t83 (.int .i64 1) w fun t84 w =>
 Bn P .sub 3 false t84 t15 w fun t86 w =>
 Ia P 23 t42 t86 w fun t87 w =>
 Ld P 30 t87 w fun t88 w =>
 Bs P 23 1 [(0, t88)] w fun t89 w =>
 Bt P .append #[23, 23] 23 #[t13, t89] w fun t90 w =>
 Bt P .len #[23] 3 #[t42] w fun t94 w =>
 Bn P .sub 3 true t94 (.int .i64 1) w fun t95 w =>
 Bn P .sub 3 false t95 t15 w fun t97 w =>
 Ia P 23 t43 t97 w fun t98 w =>
 Ld P 30 t98 w fun t99 w =>
 Bs P 23 1 [(0, t99)] w fun t100 w =>
 Bt P .append #[23, 23] 23 #[t14, t100] w fun t101 w =>
 Bn P .add 3 true t15 (.int .i64 1) w fun t64 w =>
 k1 t79 t90 t101 t64 w)))
 (Cl P 14 #[t42, t43] w (Pk R) fun t105 w =>
 Ex t105 0 w fun t106 w =>
 Ex t105 1 w fun t107 w =>
 Ex t105 2 w fun t108 w =>
 Al P 30 w fun t18 w =>
 Al P 30 w fun t19 w =>
 Sto P 30 t18 t106 w fun w =>
 Sto P 30 t19 t107 w fun w =>
 Cl P 14 #[t12, t43] w (Pk R) fun t112 w =>
 Ex t112 0 w fun t113 w =>
 Ex t112 1 w fun t114 w =>
 Ex t112 2 w fun t115 w =>
 Al P 30 w fun t21 w =>
 Al P 30 w fun t22 w =>
 Sto P 30 t21 t113 w fun w =>
 Sto P 30 t22 t114 w fun w =>
 Cl P 14 #[t13, t14] w (Pk R) fun t119 w =>
 Ex t119 0 w fun t120 w =>
 Ex t119 1 w fun t121 w =>
 Ex t119 2 w fun t122 w =>
 Al P 30 w fun t24 w =>
 Al P 30 w fun t25 w =>
 Sto P 30 t24 t120 w fun w =>
 Sto P 30 t25 t121 w fun w =>
 Cl P 16 #[t42, t43] w (Pk R) fun t126 w =>
 Ex t126 0 w fun t127 w =>
 Ex t126 1 w fun t128 w =>
 Al P 30 w fun t27 w =>
 Sto P 30 t27 t127 w fun w =>
 Cl P 16 #[t12, t43] w (Pk R) fun t132 w =>
 Ex t132 0 w fun t133 w =>
 Ex t132 1 w fun t134 w =>
 Al P 30 w fun t29 w =>
 Sto P 30 t29 t133 w fun w =>
 Bn P .neq 31 true t108 (.int .i64 0) w fun t136 w =>
 Gd t136 false (fun k => k t115 w) w fun t138 w =>
 Gd t136 false (fun k => Bn P .neq 31 true t138 (.int .i64 0) w k) w fun t139 w =>
 Pick t136 (.bool true) t139 w fun t140 w =>
 Gd t140 false (fun k => k t122 w) w fun t142 w =>
 Gd t140 false (fun k => Bn P .neq 31 true t142 (.int .i64 0) w k) w fun t143 w =>
 Pick t140 (.bool true) t143 w fun t144 w =>
 Gd t144 false (fun k => k t128 w) w fun t146 w =>
 Gd t144 false (fun k => Bn P .neq 31 true t146 (.int .i64 0) w k) w fun t147 w =>
 Pick t144 (.bool true) t147 w fun t148 w =>
 Gd t148 false (fun k => k t134 w) w fun t150 w =>
 Gd t148 false (fun k => Bn P .neq 31 true t150 (.int .i64 0) w k) w fun t151 w =>
 Pick t148 (.bool true) t151 w fun t152 w =>
 Gd t152 false (fun k => Ld P 30 t24 w k) w fun t154 w =>
 Gd t152 false (fun k => Ld P 30 t18 w k) w fun t155 w =>
 Gd t152 false (fun k => Bn P .neq 30 false t154 t155 w k) w fun t156 w =>
 Pick t152 (.bool true) t156 w fun t157 w =>
 Gd t157 false (fun k => Ld P 30 t25 w k) w fun t159 w =>
 Gd t157 false (fun k => Ld P 30 t19 w k) w fun t160 w =>
 Gd t157 false (fun k => Bn P .neq 30 false t159 t160 w k) w fun t161 w =>
 Pick t157 (.bool true) t161 w fun t162 w =>
 If t162
 (R (.returned (.bool false)) w)
 (Ld P 30 t18 w fun t164 w =>
 Ld P 30 t9 w fun t165 w =>
 Cl P 24 #[t164, t165] w (Pk R) fun t166 w =>
 Ex t166 0 w fun t167 w =>
 Ex t166 1 w fun t168 w =>
 Al P 30 w fun t31 w =>
 Sto P 30 t31 t167 w fun w =>
 Ld P 30 t19 w fun t170 w =>
 Ld P 30 t10 w fun t171 w =>
 Cl P 24 #[t170, t171] w (Pk R) fun t172 w =>
 Ex t172 0 w fun t173 w =>
 Ex t172 1 w fun t174 w =>
 Al P 30 w fun t33 w =>
 Sto P 30 t33 t173 w fun w =>
 Ld P 30 t27 w fun t176 w =>
 Ld P 30 t10 w fun t177 w =>
 Cl P 24 #[t176, t177] w (Pk R) fun t178 w =>
 Ex t178 0 w fun t179 w =>
 Ex t178 1 w fun t180 w =>
 Al P 30 w fun t35 w =>
 Sto P 30 t35 t179 w fun w =>
 Bn P .eql 31 true t168 (.int .i64 0) w fun t182 w =>
 Gd t182 true (fun k => k t174 w) w fun t184 w =>
 Gd t182 true (fun k => Bn P .eql 31 true t184 (.int .i64 0) w k) w fun t185 w =>
 Pick t182 t185 (.bool false) w fun t186 w =>
 Gd t186 true (fun k => k t180 w) w fun t188 w =>
 Gd t186 true (fun k => Bn P .eql 31 true t188 (.int .i64 0) w k) w fun t189 w =>
 Pick t186 t189 (.bool false) w fun t190 w =>
 Gd t190 true (fun k => Ld P 30 t31 w k) w fun t192 w =>
 Gd t190 true (fun k => Ld P 30 t21 w k) w fun t193 w =>
 Gd t190 true (fun k => Bn P .eql 30 false t192 t193 w k) w fun t194 w =>
 Pick t190 t194 (.bool false) w fun t195 w =>
 Gd t195 true (fun k => Ld P 30 t33 w k) w fun t197 w =>
 Gd t195 true (fun k => Ld P 30 t22 w k) w fun t198 w =>
 Gd t195 true (fun k => Bn P .eql 30 false t197 t198 w k) w fun t199 w =>
 Pick t195 t199 (.bool false) w fun t200 w =>
 Gd t200 true (fun k => Ld P 30 t35 w k) w fun t202 w =>
 Gd t200 true (fun k => Ld P 30 t29 w k) w fun t203 w =>
 Gd t200 true (fun k => Bn P .eql 30 false t202 t203 w k) w fun t204 w =>
 Pick t200 t204 (.bool false) w fun t205 w =>
 R (.returned t205) w)))))
theorem e_law16_EstimateScales {t0 t1 t2 : Value} {w : World} {R : Ending → World → Prop} (h : s_law16_EstimateScales Tryz.prog t0 t1 t2 w R) : Calls Tryz.prog 9 #[t0, t1, t2] w R :=
 enter (h := (.sq .z (.sq (.sq .z (.cd (.sq .z .z) .z)) (.sq .z (.sq .z (.sq .z (.sq (.sq .z (.cd (.sq .z .z) .z)) (.sq .z (.sq .z (.sq .z (.sq (.sq .z (.bk (.lp [12, 13, 14, 15] [6, 16, 17, 59, 60, 61, 62, 63, 64, 65, 66, 67, 68, 69, 70, 71, 72, 73, 74, 75, 76, 77, 78, 79, 80, 81, 82, 83, 84, 85, 86, 87, 88, 89, 90, 91, 92, 93, 94, 95, 96, 97, 98, 99, 100, 101] (.sq (.sq .z (.cd .z .z)) (.sq (.bk (.jn [16, 17] [65, 66, 67, 68, 69, 70, 71, 72, 73] (.dr (.pur true 0 (.pur true 1 (.pur true 2 (.pur false 3 (.pur false 4 (.alt (.eff 5 [] (.pur true 6 (.pur true 7 (.pur true 8 (.eff 9 [3, 4] (.eff 10 [] (.pur true 11 .done))))))) (.eff 9 [3, 4] (.eff 5 [] (.pur true 6 (.pur true 7 (.pur true 8 (.eff 10 [] (.pur true 11 .done)))))))))))))) (.sq (.sq .z (.cd (.sq .z .z) .z)) (.sq .z (.sq .z .z))))) .z))))) (.sq .z (.sq .z (.sq .z (.sq .z (.sq .z (.sq (.sq .z (.cd (.sq .z .z) .z)) (.sq .z (.sq .z (.sq .z (.sq .z .z))))))))))))))))))))) (args := [t0, t1, t2]) Tryz.func9 (by kernel_rfl) (by kernel_rfl) (by kernel_rfl) (Eq.mp (by kernel_rfl) h)
end Go.Proofs.YtnocjgmmglmfiaaGreatDoor
