/-
  Contracts and plain lemmas. By an AI agent.
-/
import Derived.Test.YtnkmbjedcjcccaaGreatDoorEng
import Derived.Test.YtnkmbjedcjcccaaGreatDoorProg
set_option linter.unusedSimpArgs false
set_option linter.unusedVariables false
set_option linter.unusedSectionVars false
namespace Go.Proofs.YtnkmbjedcjcccaaGreatDoor
open Go Go.Eng Go.Shelf
set_option maxRecDepth 100000
variable {t0 t1 t2 t3 : Value} {w : World} {R : Ending → World → Prop}
def s_law28_AlarmCertain (P : Program) (t0 t1 t2 t3 : Value) (w : World) (R : Ending → World → Prop) : Prop :=
 Cl P 9 #[] w (Pk R) fun t26 w =>
 Un P .not t26 w fun t27 w =>
 If t27
 (R (.returned (.bool false)) w)
 (Cl P 36 #[t0, t1] w (Pk R) fun t31 w =>
 Ex t31 0 w fun t32 w =>
 Ex t31 1 w fun t33 w =>
 Al P 28 w fun t9 w =>
 Sto P 28 t9 t32 w fun w =>
 Cl P 37 #[(.int .i64 0), t2] w (Pk R) fun t35 w =>
 Lp3 (.slice none 0 0) (.slice none 0 0) (.int .i64 0) w (fun t12 t13 t14 w k1 =>
 Bt P .len #[31] 3 #[t35] w fun t38 w =>
 Bn P .lss 3 false t14 t38 w fun t39 w =>
 If t39
 (Ia P 31 t35 t14 w fun t44 w =>
 Ld P 65 t44 w fun t45 w =>
 Al P 65 w fun t15 w =>
 Sto P 65 t15 t45 w fun w =>
 Ia P 31 t35 t14 w fun t48 w =>
 Ld P 65 t48 w fun t49 w =>
 Al P 65 w fun t16 w =>
 Sto P 65 t16 t49 w fun w =>
 Jn0 (fun k2 =>
 Bt P .len #[73] 3 #[t3] w fun t52 w =>
 Bn P .lss 3 false t14 t52 w fun t53 w =>
 If t53
 (dFl P 65 t15 7 w.drew fun t54 =>
 dL P 3 t54 w.drew fun t55 =>
 dIx P 73 t3 t14 w.drew fun t58 =>
 Dv P true (Instr.indexAt 77 t58 (.int .i64 0)) w.drew fun t59 =>
 dL P 3 t59 w.drew fun t60 =>
 dFl P 65 t15 8 w.drew fun t61 =>
 dL P 3 t61 w.drew fun t62 =>
 dFl P 65 t15 7 w.drew fun t63 =>
 dL P 3 t63 w.drew fun t64 =>
 Dv P true (bn .sub 3 false t62 t64) w.drew fun t65 =>
 Dv P true (bn .add 3 true t65 (.int .i64 1)) w.drew fun t66 =>
 Cl P 27 #[t60, t66] w.drew (Pk R) fun t67 w =>
 kLd P 3 t54 t55 w <|
 Dv P true (bn .add 3 false t55 t67) w fun t68 =>
 dFl P 65 t15 7 w fun t69 =>
 Sto P 3 t69 t68 w fun w =>
 dFl P 65 t15 7 w.drew fun t70 =>
 dL P 3 t70 w.drew fun t71 =>
 dIx P 73 t3 t14 w.drew fun t74 =>
 Dv P true (Instr.indexAt 77 t74 (.int .i64 1)) w.drew fun t75 =>
 dL P 3 t75 w.drew fun t76 =>
 dFl P 65 t15 8 w.drew fun t77 =>
 dL P 3 t77 w.drew fun t78 =>
 dFl P 65 t15 7 w.drew fun t79 =>
 dL P 3 t79 w.drew fun t80 =>
 Dv P true (bn .sub 3 false t78 t80) w.drew fun t81 =>
 Dv P true (bn .add 3 true t81 (.int .i64 1)) w.drew fun t82 =>
 Cl P 27 #[t76, t82] w.drew (Pk R) fun t83 w =>
 kLd P 3 t70 t71 w <|
 Dv P true (bn .add 3 false t71 t83) w fun t84 =>
 dFl P 65 t15 8 w fun t85 =>
 Sto P 3 t85 t84 w fun w =>
 dFl P 65 t16 7 w.drew fun t86 =>
 dL P 3 t86 w.drew fun t87 =>
 dIx P 73 t3 t14 w.drew fun t90 =>
 Dv P true (Instr.indexAt 77 t90 (.int .i64 1)) w.drew fun t91 =>
 dL P 3 t91 w.drew fun t92 =>
 Cl P 27 #[t92, (.int .i64 40)] w.drew (Pk R) fun t93 w =>
 kLd P 3 t86 t87 w <|
 Dv P true (bn .add 3 false t87 t93) w fun t94 =>
 dFl P 65 t16 7 w fun t95 =>
 Sto P 3 t95 t94 w fun w =>
 Fa P 65 t16 8 w fun t96 w =>
 Ld P 3 t96 w fun t97 w =>
 Fa P 65 t16 7 w fun t98 w =>
 Ld P 3 t98 w fun t99 w =>
 Bt P .max #[3, 3] 3 #[t97, t99] w fun t100 w =>
 Fa P 65 t16 8 w fun t101 w =>
 Sto P 3 t101 t100 w fun w =>
 k2 w)
 (k2 w))
 (fun w =>
 Ld P 65 t15 w fun t103 w =>
 Bs P 31 1 [(0, t103)] w fun t104 w =>
 Bt P .append #[31, 31] 31 #[t12, t104] w fun t105 w =>
 Ld P 65 t16 w fun t107 w =>
 Bs P 31 1 [(0, t107)] w fun t108 w =>
 Bt P .append #[31, 31] 31 #[t13, t108] w fun t109 w =>
 Bn P .add 3 true t14 (.int .i64 1) w fun t41 w =>
 k1 t105 t109 t41 w))
 (Ld P 28 t9 w fun t111 w =>
 Cl P 24 #[t111, t35] w (Pk R) fun t113 w =>
 Ex t113 0 w fun t114 w =>
 Ex t113 1 w fun t115 w =>
 Ex t113 2 w fun t116 w =>
 Al P 28 w fun t17 w =>
 Sto P 28 t17 t114 w fun w =>
 Ld P 28 t9 w fun t118 w =>
 Cl P 24 #[t118, t12] w (Pk R) fun t120 w =>
 Ex t120 0 w fun t121 w =>
 Ex t120 1 w fun t122 w =>
 Ex t120 2 w fun t123 w =>
 Al P 28 w fun t20 w =>
 Sto P 28 t20 t121 w fun w =>
 Ld P 28 t9 w fun t125 w =>
 Cl P 24 #[t125, t13] w (Pk R) fun t127 w =>
 Ex t127 0 w fun t128 w =>
 Ex t127 1 w fun t129 w =>
 Ex t127 2 w fun t130 w =>
 Al P 28 w fun t23 w =>
 Sto P 28 t23 t128 w fun w =>
 Gd t33 true (fun k => k t116 w) w fun t133 w =>
 Gd t33 true (fun k => Bn P .eql 46 true t133 (.int .i64 0) w k) w fun t134 w =>
 Pick t33 t134 (.bool false) w fun t135 w =>
 Gd t135 true (fun k => k t123 w) w fun t137 w =>
 Gd t135 true (fun k => Bn P .eql 46 true t137 (.int .i64 0) w k) w fun t138 w =>
 Pick t135 t138 (.bool false) w fun t139 w =>
 Gd t139 true (fun k => k t130 w) w fun t141 w =>
 Gd t139 true (fun k => Bn P .eql 46 true t141 (.int .i64 0) w k) w fun t142 w =>
 Pick t139 t142 (.bool false) w fun t143 w =>
 Gd t143 true (fun k => Ld P 28 t17 w k) w fun t145 w =>
 Gd t143 true (fun k => Ld P 28 t20 w k) w fun t146 w =>
 Gd t143 true (fun k => Cl P 38 #[t145, t146] w (Pk R) k) w fun t147 w =>
 Pick t143 t147 (.bool false) w fun t148 w =>
 Gd t148 true (fun k => Ld P 28 t17 w k) w fun t150 w =>
 Gd t148 true (fun k => Ld P 28 t23 w k) w fun t151 w =>
 Gd t148 true (fun k => Cl P 38 #[t150, t151] w (Pk R) k) w fun t152 w =>
 Pick t148 t152 (.bool false) w fun t153 w =>
 R (.returned t153) w)))
theorem e_law28_AlarmCertain (h : s_law28_AlarmCertain Tryz.prog t0 t1 t2 t3 w R) : Calls Tryz.prog 6 #[t0, t1, t2, t3] w R :=
 en1 (.sq .z (.sq (.sq .z (.cd (.sq .z .z) .z)) (.sq .z (.sq .z (.sq .z (.sq .z (.sq (.sq .z (.bk (.lp [12, 13, 14] [15, 16, 36, 37, 38, 39, 40, 41, 42, 43, 44, 45, 46, 47, 48, 49, 50, 51, 52, 53, 54, 55, 56, 57, 58, 59, 60, 61, 62, 63, 64, 65, 66, 67, 68, 69, 70, 71, 72, 73, 74, 75, 76, 77, 78, 79, 80, 81, 82, 83, 84, 85, 86, 87, 88, 89, 90, 91, 92, 93, 94, 95, 96, 97, 98, 99, 100, 101, 102, 103, 104, 105, 106, 107, 108, 109] (.sq (.sq .z (.cd .z .z)) (.sq (.bk (.sq .z (.sq .z (.jn [] [50, 51, 52, 53, 54, 55, 56, 57, 58, 59, 60, 61, 62, 63, 64, 65, 66, 67, 68, 69, 70, 71, 72, 73, 74, 75, 76, 77, 78, 79, 80, 81, 82, 83, 84, 85, 86, 87, 88, 89, 90, 91, 92, 93, 94, 95, 96, 97, 98, 99, 100, 101] (.sq .z (.cd (.sq (.dr (.pur true 0 (.pur false 1 (.pur true 2 (.pur true 3 (.pur true 4 (.pur true 5 (.pur false 6 (.pur true 7 (.pur false 8 (.pur true 9 (.pur false 10 (.pur true 11 (.pur true 12 (.eff 13 [1] (.pur true 14 (.pur true 15 (.eff 16 [] .done)))))))))))))))))) (.sq (.dr (.pur true 0 (.pur false 1 (.pur true 2 (.pur true 3 (.pur true 4 (.pur true 5 (.pur false 6 (.pur true 7 (.pur false 8 (.pur true 9 (.pur false 10 (.pur true 11 (.pur true 12 (.eff 13 [1] (.pur true 14 (.pur true 15 (.eff 16 [] .done)))))))))))))))))) (.sq (.dr (.pur true 0 (.pur false 1 (.pur true 2 (.pur true 3 (.pur true 4 (.pur true 5 (.pur false 6 (.eff 7 [1] (.pur true 8 (.pur true 9 (.eff 10 [] .done)))))))))))) .z))) .z)) (.sq .z .z))))) .z))))) (.sq .z (.sq .z (.sq .z (.sq .z .z))))))))))) [t0, t1, t2, t3] Tryz.func6 (by kernel_rfl) (by kernel_rfl) h
end Go.Proofs.YtnkmbjedcjcccaaGreatDoor
