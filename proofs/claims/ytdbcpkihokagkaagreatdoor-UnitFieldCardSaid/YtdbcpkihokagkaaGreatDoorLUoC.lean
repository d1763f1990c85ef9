/-
  Contracts and plain lemmas. By an AI agent.
-/
import Derived.Test.YtdbcpkihokagkaaGreatDoorEng
import Derived.Test.YtdbcpkihokagkaaGreatDoorProg
set_option linter.unusedSimpArgs false
set_option linter.unusedVariables false
set_option linter.unusedSectionVars false
namespace Go.Proofs.YtdbcpkihokagkaaGreatDoor
open Go Go.Eng Go.Shelf
set_option maxRecDepth 100000
variable {t0 t1 t2 : Value} {w : World} {R : Ending → World → Prop}
def s_law05_UnitField (P : Program) (t0 t1 t2 : Value) (w : World) (R : Ending → World → Prop) : Prop :=
 Bx P 28 t0 w fun t3 w =>
 Bx P 28 t1 w fun t4 w =>
 Bx P 28 t2 w fun t5 w =>
 Cl P 10 #[] w (Pk R) fun t33 w =>
 Ld P 28 t3 w fun t34 w =>
 Cl P 12 #[t34] w (Pk R) fun t35 w =>
 Al P 27 w fun t8 w =>
 Sto P 27 t8 t35 w fun w =>
 Ld P 28 t4 w fun t36 w =>
 Cl P 12 #[t36] w (Pk R) fun t37 w =>
 Al P 27 w fun t9 w =>
 Sto P 27 t9 t37 w fun w =>
 Ld P 28 t5 w fun t38 w =>
 Cl P 12 #[t38] w (Pk R) fun t39 w =>
 Al P 27 w fun t10 w =>
 Sto P 27 t10 t39 w fun w =>
 Fa P 27 t9 1 w fun t40 w =>
 Ld P 25 t40 w fun t41 w =>
 Fa P 27 t10 1 w fun t42 w =>
 Sto P 25 t42 t41 w fun w =>
 Ld P 27 t9 w fun t44 w =>
 Ld P 27 t10 w fun t45 w =>
 Cl P 17 #[t44, t45] w (Pk R) fun t46 w =>
 Ex t46 0 w fun t47 w =>
 Ex t46 1 w fun t48 w =>
 Al P 27 w fun t11 w =>
 Sto P 27 t11 t47 w fun w =>
 Ld P 27 t10 w fun t50 w =>
 Ld P 27 t9 w fun t51 w =>
 Cl P 17 #[t50, t51] w (Pk R) fun t52 w =>
 Ex t52 0 w fun t53 w =>
 Ex t52 1 w fun t54 w =>
 Al P 27 w fun t13 w =>
 Sto P 27 t13 t53 w fun w =>
 Ld P 27 t8 w fun t56 w =>
 Ld P 27 t9 w fun t57 w =>
 Cl P 21 #[t56, t57] w (Pk R) fun t58 w =>
 Ex t58 0 w fun t59 w =>
 Ex t58 1 w fun t60 w =>
 Al P 27 w fun t15 w =>
 Sto P 27 t15 t59 w fun w =>
 Ld P 27 t9 w fun t62 w =>
 Ld P 27 t8 w fun t63 w =>
 Cl P 21 #[t62, t63] w (Pk R) fun t64 w =>
 Ex t64 0 w fun t65 w =>
 Ex t64 1 w fun t66 w =>
 Al P 27 w fun t17 w =>
 Sto P 27 t17 t65 w fun w =>
 Ld P 27 t8 w fun t68 w =>
 Ld P 27 t10 w fun t69 w =>
 Cl P 21 #[t68, t69] w (Pk R) fun t70 w =>
 Ex t70 0 w fun t71 w =>
 Ex t70 1 w fun t72 w =>
 Al P 27 w fun t19 w =>
 Sto P 27 t19 t71 w fun w =>
 Ld P 27 t11 w fun t73 w =>
 Ld P 27 t13 w fun t74 w =>
 Bn P .neq 27 false t73 t74 w fun t75 w =>
 Gd t75 false (fun k => k t48 w) w fun t77 w =>
 Gd t75 false (fun k => k t54 w) w fun t78 w =>
 Gd t75 false (fun k => Bn P .neq 35 false t77 t78 w k) w fun t79 w =>
 Pick t75 (.bool true) t79 w fun t80 w =>
 Gd t80 false (fun k => Ld P 27 t15 w k) w fun t82 w =>
 Gd t80 false (fun k => Ld P 27 t17 w k) w fun t83 w =>
 Gd t80 false (fun k => Bn P .neq 27 false t82 t83 w k) w fun t84 w =>
 Pick t80 (.bool true) t84 w fun t85 w =>
 Gd t85 false (fun k => k t60 w) w fun t87 w =>
 Gd t85 false (fun k => k t66 w) w fun t88 w =>
 Gd t85 false (fun k => Bn P .neq 35 false t87 t88 w k) w fun t89 w =>
 Pick t85 (.bool true) t89 w fun t90 w =>
 If t90
 (R (.returned (.bool false)) w)
 (Ld P 27 t8 w fun t92 w =>
 Ld P 27 t11 w fun t93 w =>
 Cl P 21 #[t92, t93] w (Pk R) fun t94 w =>
 Ex t94 0 w fun t95 w =>
 Ex t94 1 w fun t96 w =>
 Al P 27 w fun t21 w =>
 Sto P 27 t21 t95 w fun w =>
 Ld P 27 t15 w fun t98 w =>
 Ld P 27 t19 w fun t99 w =>
 Cl P 17 #[t98, t99] w (Pk R) fun t100 w =>
 Ex t100 0 w fun t101 w =>
 Ex t100 1 w fun t102 w =>
 Al P 27 w fun t23 w =>
 Sto P 27 t23 t101 w fun w =>
 Bn P .eql 35 true t48 (.int .i64 0) w fun t104 w =>
 Gd t104 true (fun k => k t60 w) w fun t106 w =>
 Gd t104 true (fun k => Bn P .eql 35 true t106 (.int .i64 0) w k) w fun t107 w =>
 Pick t104 t107 (.bool false) w fun t108 w =>
 Gd t108 true (fun k => k t72 w) w fun t110 w =>
 Gd t108 true (fun k => Bn P .eql 35 true t110 (.int .i64 0) w k) w fun t111 w =>
 Pick t108 t111 (.bool false) w fun t112 w =>
 Gd t112 true (fun k => k t96 w) w fun t114 w =>
 Gd t112 true (fun k => Bn P .eql 35 true t114 (.int .i64 0) w k) w fun t115 w =>
 Pick t112 t115 (.bool false) w fun t116 w =>
 Gd t116 true (fun k => k t102 w) w fun t118 w =>
 Gd t116 true (fun k => Bn P .eql 35 true t118 (.int .i64 0) w k) w fun t119 w =>
 Pick t116 t119 (.bool false) w fun t120 w =>
 Gd t120 true (fun k => Ld P 27 t21 w k) w fun t122 w =>
 Gd t120 true (fun k => Ld P 27 t23 w k) w fun t123 w =>
 Gd t120 true (fun k => Bn P .neq 27 false t122 t123 w k) w fun t124 w =>
 Pick t120 t124 (.bool false) w fun t125 w =>
 If t125
 (R (.returned (.bool false)) w)
 (Ld P 27 t15 w fun t127 w =>
 Ld P 27 t10 w fun t128 w =>
 Cl P 21 #[t127, t128] w (Pk R) fun t129 w =>
 Ex t129 0 w fun t130 w =>
 Ex t129 1 w fun t131 w =>
 Al P 27 w fun t25 w =>
 Sto P 27 t25 t130 w fun w =>
 Ld P 27 t9 w fun t133 w =>
 Ld P 27 t19 w fun t134 w =>
 Cl P 21 #[t133, t134] w (Pk R) fun t135 w =>
 Ex t135 0 w fun t136 w =>
 Ex t135 1 w fun t137 w =>
 Al P 27 w fun t27 w =>
 Sto P 27 t27 t136 w fun w =>
 Bn P .eql 35 true t60 (.int .i64 0) w fun t139 w =>
 Gd t139 true (fun k => k t72 w) w fun t141 w =>
 Gd t139 true (fun k => Bn P .eql 35 true t141 (.int .i64 0) w k) w fun t142 w =>
 Pick t139 t142 (.bool false) w fun t143 w =>
 Gd t143 true (fun k => k t131 w) w fun t145 w =>
 Gd t143 true (fun k => Bn P .eql 35 true t145 (.int .i64 0) w k) w fun t146 w =>
 Pick t143 t146 (.bool false) w fun t147 w =>
 Gd t147 true (fun k => k t137 w) w fun t149 w =>
 Gd t147 true (fun k => Bn P .eql 35 true t149 (.int .i64 0) w k) w fun t150 w =>
 Pick t147 t150 (.bool false) w fun t151 w =>
 Gd t151 true (fun k => Ld P 27 t25 w k) w fun t153 w =>
 Gd t151 true (fun k => Ld P 27 t27 w k) w fun t154 w =>
 Gd t151 true (fun k => Bn P .neq 27 false t153 t154 w k) w fun t155 w =>
 Pick t151 t155 (.bool false) w fun t156 w =>
 If t156
 (R (.returned (.bool false)) w)
 (Ld P 27 t11 w fun t158 w =>
 Ld P 27 t10 w fun t159 w =>
 Cl P 19 #[t158, t159] w (Pk R) fun t160 w =>
 Ex t160 0 w fun t161 w =>
 Ex t160 1 w fun t162 w =>
 Al P 27 w fun t29 w =>
 Sto P 27 t29 t161 w fun w =>
 Ld P 27 t15 w fun t164 w =>
 Ld P 27 t9 w fun t165 w =>
 Cl P 23 #[t164, t165] w (Pk R) fun t166 w =>
 Ex t166 0 w fun t167 w =>
 Ex t166 1 w fun t168 w =>
 Al P 27 w fun t31 w =>
 Sto P 27 t31 t167 w fun w =>
 Gd t33 true (fun k => k t48 w) w fun t171 w =>
 Gd t33 true (fun k => Bn P .neq 35 true t171 (.int .i64 0) w k) w fun t172 w =>
 Gd t33 true (fun k => k t172 w) w fun t173 w =>
 Gd t173 false (fun k => k t162 w) w fun t174 w =>
 Gd t173 false (fun k => Bn P .neq 35 true t174 (.int .i64 0) w k) w fun t175 w =>
 Gd t33 true (fun k => Pick t173 (.bool true) t175 w k) w fun t176 w =>
 Gd t33 true (fun k => k t176 w) w fun t177 w =>
 Gd t177 false (fun k => Ld P 27 t29 w k) w fun t178 w =>
 Gd t177 false (fun k => Ld P 27 t9 w k) w fun t179 w =>
 Gd t177 false (fun k => Bn P .eql 27 false t178 t179 w k) w fun t180 w =>
 Gd t33 true (fun k => Pick t177 (.bool true) t180 w k) w fun t181 w =>
 Pick t33 t181 (.bool false) w fun t182 w =>
 Gd t182 true (fun k => k t60 w) w fun t184 w =>
 Gd t182 true (fun k => Bn P .neq 35 true t184 (.int .i64 0) w k) w fun t185 w =>
 Gd t182 true (fun k => k t185 w) w fun t186 w =>
 Gd t186 false (fun k => k t168 w) w fun t187 w =>
 Gd t186 false (fun k => Bn P .neq 35 true t187 (.int .i64 0) w k) w fun t188 w =>
 Gd t182 true (fun k => Pick t186 (.bool true) t188 w k) w fun t189 w =>
 Gd t182 true (fun k => k t189 w) w fun t190 w =>
 Gd t190 false (fun k => Ld P 27 t31 w k) w fun t191 w =>
 Gd t190 false (fun k => Ld P 27 t8 w k) w fun t192 w =>
 Gd t190 false (fun k => Bn P .eql 27 false t191 t192 w k) w fun t193 w =>
 Gd t182 true (fun k => Pick t190 (.bool true) t193 w k) w fun t194 w =>
 Pick t182 t194 (.bool false) w fun t195 w =>
 R (.returned t195) w)))
theorem e_law05_UnitField (h : s_law05_UnitField Tryz.prog t0 t1 t2 w R) : Calls Tryz.prog 5 #[t0, t1, t2] w R :=
 en1 (.sq .z (.sq .z (.sq .z (.sq .z (.sq .z (.sq .z (.sq .z (.sq .z (.sq .z (.sq .z (.sq .z (.sq (.sq .z (.cd (.sq .z .z) .z)) (.sq .z (.sq .z (.sq (.sq .z (.cd (.sq .z .z) .z)) (.sq .z (.sq .z (.sq (.sq .z (.cd (.sq .z .z) .z)) (.sq .z (.sq .z (.sq .z .z))))))))))))))))))))) [t0, t1, t2] Tryz.func5 (by kernel_rfl) (by kernel_rfl) h
end Go.Proofs.YtdbcpkihokagkaaGreatDoor
