/-
  Contracts and plain lemmas. By an AI agent.
-/
import Derived.Test.YtdbcpkihokagkaaGreatDoorEng
import Derived.Test.YtdbcpkihokagkaaGreatDoorProg
set_option linter.unusedSimpArgs false
set_option linter.unusedVariables false
set_option linter.unusedSectionVars false
namespace Go.Proofs.YtdbcpkihokagkaaGreatDoor
open Go Go.Eng Go.Shelf
set_option maxRecDepth 100000
variable {t0 t1 t2 : Value} {w : World} {R : Ending → World → Prop}
def s_law05_UnitDimensions (P : Program) (t0 t1 t2 : Value) (w : World) (R : Ending → World → Prop) : Prop :=
 Bx P 28 t0 w fun t3 w =>
 Bx P 28 t1 w fun t4 w =>
 Bx P 52 t2 w fun t5 w =>
 Cl P 10 #[] w (Pk R) fun t23 w =>
 Ld P 28 t3 w fun t24 w =>
 Cl P 12 #[t24] w (Pk R) fun t25 w =>
 Al P 27 w fun t8 w =>
 Sto P 27 t8 t25 w fun w =>
 Ld P 28 t4 w fun t26 w =>
 Cl P 12 #[t26] w (Pk R) fun t27 w =>
 Al P 27 w fun t9 w =>
 Sto P 27 t9 t27 w fun w =>
 Lp1 (.int .i64 0) w (fun t10 w k1 =>
 Bn P .lss 3 true t10 (.int .i64 2) w fun t29 w =>
 If t29
 (Fa P 27 t8 1 w fun t32 w =>
 Ld P 25 t32 w fun t33 w =>
 Al P 25 w fun t11 w =>
 Sto P 25 t11 t33 w fun w =>
 Fa P 27 t9 1 w fun t34 w =>
 Ld P 25 t34 w fun t35 w =>
 Al P 25 w fun t12 w =>
 Sto P 25 t12 t35 w fun w =>
 Ld P 27 t8 w fun t37 w =>
 Ld P 27 t9 w fun t38 w =>
 Cl P 17 #[t37, t38] w (Pk R) fun t39 w =>
 Ex t39 0 w fun t40 w =>
 Ex t39 1 w fun t41 w =>
 Al P 27 w fun t13 w =>
 Sto P 27 t13 t40 w fun w =>
 Ld P 27 t8 w fun t43 w =>
 Ld P 27 t9 w fun t44 w =>
 Cl P 19 #[t43, t44] w (Pk R) fun t45 w =>
 Ex t45 0 w fun t46 w =>
 Ex t45 1 w fun t47 w =>
 Al P 27 w fun t15 w =>
 Sto P 27 t15 t46 w fun w =>
 Ld P 25 t11 w fun t48 w =>
 Ld P 25 t12 w fun t49 w =>
 Bn P .neq 25 false t48 t49 w fun t50 w =>
 Gd t50 true (fun k => k t41 w) w fun t52 w =>
 Gd t50 true (fun k => Bn P .neq 35 true t52 (.int .i64 50) w k) w fun t53 w =>
 Gd t50 true (fun k => k t53 w) w fun t54 w =>
 Gd t54 false (fun k => k t47 w) w fun t55 w =>
 Gd t54 false (fun k => Bn P .neq 35 true t55 (.int .i64 50) w k) w fun t56 w =>
 Gd t50 true (fun k => Pick t54 (.bool true) t56 w k) w fun t57 w =>
 Gd t50 true (fun k => k t57 w) w fun t58 w =>
 Gd t58 false (fun k => Ld P 27 t13 w k) w fun t59 w =>
 Gd t58 false (fun k => Bd P 27 [] w k) w fun t60 w =>
 Gd t58 false (fun k => Bn P .neq 27 false t59 t60 w k) w fun t61 w =>
 Gd t50 true (fun k => Pick t58 (.bool true) t61 w k) w fun t62 w =>
 Gd t50 true (fun k => k t62 w) w fun t63 w =>
 Gd t63 false (fun k => Ld P 27 t15 w k) w fun t64 w =>
 Gd t63 false (fun k => Bd P 27 [] w k) w fun t65 w =>
 Gd t63 false (fun k => Bn P .neq 27 false t64 t65 w k) w fun t66 w =>
 Gd t50 true (fun k => Pick t63 (.bool true) t66 w k) w fun t67 w =>
 Pick t50 t67 (.bool false) w fun t68 w =>
 If t68
 (R (.returned (.bool false)) w)
 (Bn P .eql 35 true t41 (.int .i64 0) w fun t70 w =>
 Gd t70 true (fun k => Fa P 27 t13 1 w k) w fun t72 w =>
 Gd t70 true (fun k => Ld P 25 t72 w k) w fun t73 w =>
 Gd t70 true (fun k => Ld P 25 t11 w k) w fun t74 w =>
 Gd t70 true (fun k => Bn P .neq 25 false t73 t74 w k) w fun t75 w =>
 Pick t70 t75 (.bool false) w fun t76 w =>
 Gd t76 false (fun k => k t47 w) w fun t78 w =>
 Gd t76 false (fun k => Bn P .eql 35 true t78 (.int .i64 0) w k) w fun t79 w =>
 Gd t76 false (fun k => k t79 w) w fun t80 w =>
 Gd t80 true (fun k => Fa P 27 t15 1 w k) w fun t81 w =>
 Gd t80 true (fun k => Ld P 25 t81 w k) w fun t82 w =>
 Gd t80 true (fun k => Ld P 25 t11 w k) w fun t83 w =>
 Gd t80 true (fun k => Bn P .neq 25 false t82 t83 w k) w fun t84 w =>
 Gd t76 false (fun k => Pick t80 t84 (.bool false) w k) w fun t85 w =>
 Pick t76 (.bool true) t85 w fun t86 w =>
 If t86
 (R (.returned (.bool false)) w)
 (Ld P 27 t8 w fun t88 w =>
 Ld P 27 t9 w fun t89 w =>
 Cl P 21 #[t88, t89] w (Pk R) fun t90 w =>
 Ex t90 0 w fun t91 w =>
 Ex t90 1 w fun t92 w =>
 Al P 27 w fun t17 w =>
 Sto P 27 t17 t91 w fun w =>
 Ld P 27 t8 w fun t94 w =>
 Ld P 27 t9 w fun t95 w =>
 Cl P 23 #[t94, t95] w (Pk R) fun t96 w =>
 Ex t96 0 w fun t97 w =>
 Ex t96 1 w fun t98 w =>
 Al P 27 w fun t19 w =>
 Sto P 27 t19 t97 w fun w =>
 Bn P .eql 35 true t92 (.int .i64 0) w fun t100 w =>
 Gd t100 true (fun k => Fa P 27 t17 1 w k) w fun t102 w =>
 Gd t100 true (fun k => Ld P 25 t102 w k) w fun t103 w =>
 Gd t100 true (fun k => Fa P 25 t11 0 w k) w fun t104 w =>
 Gd t100 true (fun k => Ld P 3 t104 w k) w fun t105 w =>
 Gd t100 true (fun k => Fa P 25 t12 0 w k) w fun t106 w =>
 Gd t100 true (fun k => Ld P 3 t106 w k) w fun t107 w =>
 Gd t100 true (fun k => Bn P .add 3 false t105 t107 w k) w fun t108 w =>
 Gd t100 true (fun k => Fa P 25 t11 1 w k) w fun t109 w =>
 Gd t100 true (fun k => Ld P 3 t109 w k) w fun t110 w =>
 Gd t100 true (fun k => Fa P 25 t12 1 w k) w fun t111 w =>
 Gd t100 true (fun k => Ld P 3 t111 w k) w fun t112 w =>
 Gd t100 true (fun k => Bn P .add 3 false t110 t112 w k) w fun t113 w =>
 Gd t100 true (fun k => Fa P 25 t11 2 w k) w fun t114 w =>
 Gd t100 true (fun k => Ld P 3 t114 w k) w fun t115 w =>
 Gd t100 true (fun k => Fa P 25 t12 2 w k) w fun t116 w =>
 Gd t100 true (fun k => Ld P 3 t116 w k) w fun t117 w =>
 Gd t100 true (fun k => Bn P .add 3 false t115 t117 w k) w fun t118 w =>
 Gd t100 true (fun k => Fa P 25 t11 3 w k) w fun t119 w =>
 Gd t100 true (fun k => Ld P 3 t119 w k) w fun t120 w =>
 Gd t100 true (fun k => Fa P 25 t12 3 w k) w fun t121 w =>
 Gd t100 true (fun k => Ld P 3 t121 w k) w fun t122 w =>
 Gd t100 true (fun k => Bn P .add 3 false t120 t122 w k) w fun t123 w =>
 Gd t100 true (fun k => Bd P 25 [(0, t108), (1, t113), (2, t118), (3, t123)] w k) w fun t124 w =>
 Gd t100 true (fun k => Bn P .neq 25 false t103 t124 w k) w fun t125 w =>
 Pick t100 t125 (.bool false) w fun t126 w =>
 Gd t126 false (fun k => k t98 w) w fun t128 w =>
 Gd t126 false (fun k => Bn P .eql 35 true t128 (.int .i64 0) w k) w fun t129 w =>
 Gd t126 false (fun k => k t129 w) w fun t130 w =>
 Gd t130 true (fun k => Fa P 27 t19 1 w k) w fun t131 w =>
 Gd t130 true (fun k => Ld P 25 t131 w k) w fun t132 w =>
 Gd t130 true (fun k => Fa P 25 t11 0 w k) w fun t133 w =>
 Gd t130 true (fun k => Ld P 3 t133 w k) w fun t134 w =>
 Gd t130 true (fun k => Fa P 25 t12 0 w k) w fun t135 w =>
 Gd t130 true (fun k => Ld P 3 t135 w k) w fun t136 w =>
 Gd t130 true (fun k => Bn P .sub 3 false t134 t136 w k) w fun t137 w =>
 Gd t130 true (fun k => Fa P 25 t11 1 w k) w fun t138 w =>
 Gd t130 true (fun k => Ld P 3 t138 w k) w fun t139 w =>
 Gd t130 true (fun k => Fa P 25 t12 1 w k) w fun t140 w =>
 Gd t130 true (fun k => Ld P 3 t140 w k) w fun t141 w =>
 Gd t130 true (fun k => Bn P .sub 3 false t139 t141 w k) w fun t142 w =>
 Gd t130 true (fun k => Fa P 25 t11 2 w k) w fun t143 w =>
 Gd t130 true (fun k => Ld P 3 t143 w k) w fun t144 w =>
 Gd t130 true (fun k => Fa P 25 t12 2 w k) w fun t145 w =>
 Gd t130 true (fun k => Ld P 3 t145 w k) w fun t146 w =>
 Gd t130 true (fun k => Bn P .sub 3 false t144 t146 w k) w fun t147 w =>
 Gd t130 true (fun k => Fa P 25 t11 3 w k) w fun t148 w =>
 Gd t130 true (fun k => Ld P 3 t148 w k) w fun t149 w =>
 Gd t130 true (fun k => Fa P 25 t12 3 w k) w fun t150 w =>
 Gd t130 true (fun k => Ld P 3 t150 w k) w fun t151 w =>
 Gd t130 true (fun k => Bn P .sub 3 false t149 t151 w k) w fun t152 w =>
 Gd t130 true (fun k => Bd P 25 [(0, t137), (1, t142), (2, t147), (3, t152)] w k) w fun t153 w =>
 Gd t130 true (fun k => Bn P .neq 25 false t132 t153 w k) w fun t154 w =>
 Gd t126 false (fun k => Pick t130 t154 (.bool false) w k) w fun t155 w =>
 Pick t126 (.bool true) t155 w fun t156 w =>
 If t156
 (R (.returned (.bool false)) w)
 (Ld P 27 t8 w fun t158 w =>
 Ld P 27 t9 w fun t159 w =>
 Cl P 25 #[t158, t159] w (Pk R) fun t160 w =>
 Ex t160 0 w fun t161 w =>
 Ex t160 1 w fun t162 w =>
 Bn P .eql 35 true t162 (.int .i64 0) w fun t164 w =>
 Ld P 25 t11 w fun t165 w =>
 Ld P 25 t12 w fun t166 w =>
 Bn P .eql 25 false t165 t166 w fun t167 w =>
 Bn P .neq 4 false t164 t167 w fun t168 w =>
 Gd t168 false (fun k => k t162 w) w fun t170 w =>
 Gd t168 false (fun k => Bn P .neq 35 true t170 (.int .i64 0) w k) w fun t171 w =>
 Gd t168 false (fun k => k t171 w) w fun t172 w =>
 Gd t172 true (fun k => k t161 w) w fun t173 w =>
 Gd t172 true (fun k => Bn P .neq 3 true t173 (.int .i64 0) w k) w fun t174 w =>
 Gd t168 false (fun k => Pick t172 t174 (.bool false) w k) w fun t175 w =>
 Pick t168 (.bool true) t175 w fun t176 w =>
 If t176
 (R (.returned (.bool false)) w)
 (Ia P 52 t5 (.int .i64 0) w fun t177 w =>
 Ld P 3 t177 w fun t178 w =>
 Ia P 52 t5 (.int .i64 1) w fun t179 w =>
 Ld P 3 t179 w fun t180 w =>
 Bd P 28 [(0, t178), (1, t180), (2, (.int .i64 0)), (3, (.int .i64 0))] w fun t181 w =>
 Cl P 12 #[t181] w (Pk R) fun t182 w =>
 Eng.Fd P 27 t182 0 w fun t183 w =>
 Fa P 27 t8 0 w fun t184 w =>
 Sto P 23 t184 t183 w fun w =>
 Ia P 52 t5 (.int .i64 1) w fun t185 w =>
 Ld P 3 t185 w fun t186 w =>
 Ia P 52 t5 (.int .i64 0) w fun t187 w =>
 Ld P 3 t187 w fun t188 w =>
 Bd P 28 [(0, t186), (1, t188), (2, (.int .i64 0)), (3, (.int .i64 0))] w fun t189 w =>
 Cl P 12 #[t189] w (Pk R) fun t190 w =>
 Eng.Fd P 27 t190 0 w fun t191 w =>
 Fa P 27 t9 0 w fun t192 w =>
 Sto P 23 t192 t191 w fun w =>
 Bn P .add 3 true t10 (.int .i64 1) w fun t31 w =>
 k1 t31 w)))))
 (R (.returned t23) w))
theorem e_law05_UnitDimensions (h : s_law05_UnitDimensions Tryz.prog t0 t1 t2 w R) : Calls Tryz.prog 6 #[t0, t1, t2] w R :=
 en1 (.sq .z (.sq .z (.sq .z (.sq .z (.sq (.sq .z (.bk (.lp [10] [6, 11, 12, 13, 14, 15, 16, 17, 18, 19, 20, 21, 22, 28, 29, 30, 31, 32, 33, 34, 35, 36, 37, 38, 39, 40, 41, 42, 43, 44, 45, 46, 47, 48, 49, 50, 51, 52, 53, 54, 55, 56, 57, 58, 59, 60, 61, 62, 63, 64, 65, 66, 67, 68, 69, 70, 71, 72, 73, 74, 75, 76, 77, 78, 79, 80, 81, 82, 83, 84, 85, 86, 87, 88, 89, 90, 91, 92, 93, 94, 95, 96, 97, 98, 99, 100, 101, 102, 103, 104, 105, 106, 107, 108, 109, 110, 111, 112, 113, 114, 115, 116, 117, 118, 119, 120, 121, 122, 123, 124, 125, 126, 127, 128, 129, 130, 131, 132, 133, 134, 135, 136, 137, 138, 139, 140, 141, 142, 143, 144, 145, 146, 147, 148, 149, 150, 151, 152, 153, 154, 155, 156, 157, 158, 159, 160, 161, 162, 163, 164, 165, 166, 167, 168, 169, 170, 171, 172, 173, 174, 175, 176, 177, 178, 179, 180, 181, 182, 183, 184, 185, 186, 187, 188, 189, 190, 191, 192] (.sq (.sq .z (.cd .z .z)) (.sq (.bk (.sq .z (.sq .z (.sq .z (.sq .z (.sq (.sq .z (.cd (.sq .z .z) .z)) (.sq (.sq .z (.cd (.sq .z .z) .z)) (.sq .z (.sq .z (.sq (.sq .z (.cd (.sq .z .z) .z)) (.sq .z (.sq (.sq .z (.cd (.sq .z .z) .z)) (.sq .z .z))))))))))))) .z))))) (.sq .z .z)))))) [t0, t1, t2] Tryz.func6 (by kernel_rfl) (by kernel_rfl) h
end Go.Proofs.YtdbcpkihokagkaaGreatDoor
