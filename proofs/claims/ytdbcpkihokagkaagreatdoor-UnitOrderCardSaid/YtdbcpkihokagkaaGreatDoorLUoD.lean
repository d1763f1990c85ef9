/-
  Contracts and plain lemmas. By an AI agent.
-/
import Derived.Test.YtdbcpkihokagkaaGreatDoorEng
import Derived.Test.YtdbcpkihokagkaaGreatDoorProg
set_option linter.unusedSimpArgs false
set_option linter.unusedVariables false
set_option linter.unusedSectionVars false
namespace Go.Proofs.YtdbcpkihokagkaaGreatDoor
open Go Go.Eng Go.Shelf
set_option maxRecDepth 100000
variable {t0 t1 t2 : Value} {w : World} {R : Ending → World → Prop}
def s_law05_UnitOrder (P : Program) (t0 t1 t2 : Value) (w : World) (R : Ending → World → Prop) : Prop :=
 Bx P 28 t0 w fun t3 w =>
 Bx P 28 t1 w fun t4 w =>
 Bx P 28 t2 w fun t5 w =>
 Cl P 10 #[] w (Pk R) fun t28 w =>
 Ld P 28 t3 w fun t29 w =>
 Cl P 12 #[t29] w (Pk R) fun t30 w =>
 Al P 27 w fun t8 w =>
 Sto P 27 t8 t30 w fun w =>
 Ld P 28 t4 w fun t31 w =>
 Cl P 12 #[t31] w (Pk R) fun t32 w =>
 Al P 27 w fun t9 w =>
 Sto P 27 t9 t32 w fun w =>
 Ld P 28 t5 w fun t33 w =>
 Cl P 12 #[t33] w (Pk R) fun t34 w =>
 Al P 27 w fun t10 w =>
 Sto P 27 t10 t34 w fun w =>
 Fa P 27 t8 1 w fun t35 w =>
 Ld P 25 t35 w fun t36 w =>
 Fa P 27 t9 1 w fun t37 w =>
 Sto P 25 t37 t36 w fun w =>
 Fa P 27 t8 1 w fun t38 w =>
 Ld P 25 t38 w fun t39 w =>
 Fa P 27 t10 1 w fun t40 w =>
 Sto P 25 t40 t39 w fun w =>
 Ld P 27 t8 w fun t42 w =>
 Ld P 27 t9 w fun t43 w =>
 Cl P 25 #[t42, t43] w (Pk R) fun t44 w =>
 Ex t44 0 w fun t45 w =>
 Ex t44 1 w fun t46 w =>
 Ld P 27 t9 w fun t48 w =>
 Ld P 27 t8 w fun t49 w =>
 Cl P 25 #[t48, t49] w (Pk R) fun t50 w =>
 Ex t50 0 w fun t51 w =>
 Ex t50 1 w fun t52 w =>
 Ld P 27 t9 w fun t54 w =>
 Ld P 27 t10 w fun t55 w =>
 Cl P 25 #[t54, t55] w (Pk R) fun t56 w =>
 Ex t56 0 w fun t57 w =>
 Ex t56 1 w fun t58 w =>
 Ld P 27 t8 w fun t60 w =>
 Ld P 27 t10 w fun t61 w =>
 Cl P 25 #[t60, t61] w (Pk R) fun t62 w =>
 Ex t62 0 w fun t63 w =>
 Ex t62 1 w fun t64 w =>
 Bn P .neq 35 true t46 (.int .i64 0) w fun t66 w =>
 Gd t66 false (fun k => k t52 w) w fun t68 w =>
 Gd t66 false (fun k => Bn P .neq 35 true t68 (.int .i64 0) w k) w fun t69 w =>
 Pick t66 (.bool true) t69 w fun t70 w =>
 Gd t70 false (fun k => k t58 w) w fun t72 w =>
 Gd t70 false (fun k => Bn P .neq 35 true t72 (.int .i64 0) w k) w fun t73 w =>
 Pick t70 (.bool true) t73 w fun t74 w =>
 Gd t74 false (fun k => k t64 w) w fun t76 w =>
 Gd t74 false (fun k => Bn P .neq 35 true t76 (.int .i64 0) w k) w fun t77 w =>
 Pick t74 (.bool true) t77 w fun t78 w =>
 Gd t78 false (fun k => k t45 w) w fun t80 w =>
 Gd t78 false (fun k => k t51 w) w fun t81 w =>
 Gd t78 false (fun k => Un P .neg t81 w k) w fun t82 w =>
 Gd t78 false (fun k => Bn P .neq 3 false t80 t82 w k) w fun t83 w =>
 Pick t78 (.bool true) t83 w fun t84 w =>
 Gd t84 false (fun k => k t45 w) w fun t86 w =>
 Gd t84 false (fun k => Bn P .eql 3 true t86 (.int .i64 0) w k) w fun t87 w =>
 Gd t84 false (fun k => Ld P 27 t8 w k) w fun t88 w =>
 Gd t84 false (fun k => Ld P 27 t9 w k) w fun t89 w =>
 Gd t84 false (fun k => Bn P .eql 27 false t88 t89 w k) w fun t90 w =>
 Gd t84 false (fun k => Bn P .neq 4 false t87 t90 w k) w fun t91 w =>
 Pick t84 (.bool true) t91 w fun t92 w =>
 Gd t92 false (fun k => k t45 w) w fun t94 w =>
 Gd t92 false (fun k => Bn P .leq 3 true t94 (.int .i64 0) w k) w fun t95 w =>
 Gd t92 false (fun k => k t95 w) w fun t96 w =>
 Gd t96 true (fun k => k t57 w) w fun t97 w =>
 Gd t96 true (fun k => Bn P .leq 3 true t97 (.int .i64 0) w k) w fun t98 w =>
 Gd t92 false (fun k => Pick t96 t98 (.bool false) w k) w fun t99 w =>
 Gd t92 false (fun k => k t99 w) w fun t100 w =>
 Gd t100 true (fun k => k t63 w) w fun t101 w =>
 Gd t100 true (fun k => Bn P .gtr 3 true t101 (.int .i64 0) w k) w fun t102 w =>
 Gd t92 false (fun k => Pick t100 t102 (.bool false) w k) w fun t103 w =>
 Pick t92 (.bool true) t103 w fun t104 w =>
 If t104
 (R (.returned (.bool false)) w)
 (Ld P 27 t8 w fun t106 w =>
 Ld P 27 t10 w fun t107 w =>
 Cl P 17 #[t106, t107] w (Pk R) fun t108 w =>
 Ex t108 0 w fun t109 w =>
 Ex t108 1 w fun t110 w =>
 Al P 27 w fun t19 w =>
 Sto P 27 t19 t109 w fun w =>
 Ld P 27 t9 w fun t112 w =>
 Ld P 27 t10 w fun t113 w =>
 Cl P 17 #[t112, t113] w (Pk R) fun t114 w =>
 Ex t114 0 w fun t115 w =>
 Ex t114 1 w fun t116 w =>
 Al P 27 w fun t21 w =>
 Sto P 27 t21 t115 w fun w =>
 Ld P 27 t19 w fun t118 w =>
 Ld P 27 t21 w fun t119 w =>
 Cl P 25 #[t118, t119] w (Pk R) fun t120 w =>
 Ex t120 0 w fun t121 w =>
 Ex t120 1 w fun t122 w =>
 Ld P 27 t8 w fun t124 w =>
 Ld P 27 t9 w fun t125 w =>
 Cl P 19 #[t124, t125] w (Pk R) fun t126 w =>
 Ex t126 0 w fun t127 w =>
 Ex t126 1 w fun t128 w =>
 Al P 27 w fun t25 w =>
 Sto P 27 t25 t127 w fun w =>
 Fa P 27 t25 0 w fun t129 w =>
 Ld P 23 t129 w fun t130 w =>
 Bd P 23 [(0, (str [48])), (1, (str [49]))] w fun t131 w =>
 Cl P 35 #[t130, t131] w (Pk R) fun t132 w =>
 Gd t28 true (fun k => k t110 w) w fun t135 w =>
 Gd t28 true (fun k => Bn P .neq 35 true t135 (.int .i64 0) w k) w fun t136 w =>
 Gd t28 true (fun k => k t136 w) w fun t137 w =>
 Gd t137 false (fun k => k t116 w) w fun t138 w =>
 Gd t137 false (fun k => Bn P .neq 35 true t138 (.int .i64 0) w k) w fun t139 w =>
 Gd t28 true (fun k => Pick t137 (.bool true) t139 w k) w fun t140 w =>
 Gd t28 true (fun k => k t140 w) w fun t141 w =>
 Gd t141 false (fun k => k t122 w) w fun t142 w =>
 Gd t141 false (fun k => Bn P .eql 35 true t142 (.int .i64 0) w k) w fun t143 w =>
 Gd t141 false (fun k => k t143 w) w fun t144 w =>
 Gd t144 true (fun k => k t121 w) w fun t145 w =>
 Gd t144 true (fun k => k t45 w) w fun t146 w =>
 Gd t144 true (fun k => Bn P .eql 3 false t145 t146 w k) w fun t147 w =>
 Gd t141 false (fun k => Pick t144 t147 (.bool false) w k) w fun t148 w =>
 Gd t28 true (fun k => Pick t141 (.bool true) t148 w k) w fun t149 w =>
 Pick t28 t149 (.bool false) w fun t150 w =>
 Gd t150 true (fun k => k t128 w) w fun t152 w =>
 Gd t150 true (fun k => Bn P .neq 35 true t152 (.int .i64 0) w k) w fun t153 w =>
 Gd t150 true (fun k => k t153 w) w fun t154 w =>
 Gd t154 false (fun k => k t132 w) w fun t155 w =>
 Gd t154 false (fun k => k t45 w) w fun t156 w =>
 Gd t154 false (fun k => Bn P .eql 3 false t155 t156 w k) w fun t157 w =>
 Gd t150 true (fun k => Pick t154 (.bool true) t157 w k) w fun t158 w =>
 Pick t150 t158 (.bool false) w fun t159 w =>
 R (.returned t159) w)
theorem e_law05_UnitOrder (h : s_law05_UnitOrder Tryz.prog t0 t1 t2 w R) : Calls Tryz.prog 7 #[t0, t1, t2] w R :=
 en1 (.sq .z (.sq .z (.sq .z (.sq .z (.sq .z (.sq .z (.sq .z (.sq .z (.sq .z (.sq .z (.sq .z (.sq (.sq .z (.cd (.sq .z .z) .z)) (.sq .z (.sq .z (.sq .z (.sq .z (.sq .z (.sq .z .z)))))))))))))))))) [t0, t1, t2] Tryz.func7 (by kernel_rfl) (by kernel_rfl) h
end Go.Proofs.YtdbcpkihokagkaaGreatDoor
