/-
  Contracts and plain lemmas. By an AI agent.
-/
import Derived.Test.YthdhnhghjecfkaaGreatEng
import Derived.Test.YthdhnhghjecfkaaGreatProg
set_option linter.unusedSimpArgs false
set_option linter.unusedVariables false
set_option linter.unusedSectionVars false
namespace Go.Proofs.YthdhnhghjecfkaaGreat
open Go Go.Eng Go.Shelf
set_option maxRecDepth 100000
variable {t0 t1 t2 t3 : Value} {w : World} {R : Ending → World → Prop}
def s_law37_ShardApart (P : Program) (t0 t1 t2 t3 : Value) (w : World) (R : Ending → World → Prop) : Prop :=
 Bx P 46 t2 w fun t6 w =>
 Bx P 46 t3 w fun t7 w =>
 Cl P 7 #[] w (Pk R) fun t28 w =>
 Un P .not t28 w fun t29 w =>
 If t29
 (R (.returned (.bool false)) w)
 (Cl P 12 #[t0, t1] w (Pk R) fun t32 w =>
 Al P 30 w fun t9 w =>
 Sto P 30 t9 t32 w fun w =>
 Ld P 30 t9 w fun t33 w =>
 Ld P 46 t6 w fun t34 w =>
 Cl P 11 #[t33, t34] w (Pk R) fun t35 w =>
 Al P 44 w fun t10 w =>
 Sto P 44 t10 t35 w fun w =>
 Ld P 30 t9 w fun t36 w =>
 Ld P 46 t7 w fun t37 w =>
 Cl P 11 #[t36, t37] w (Pk R) fun t38 w =>
 Al P 44 w fun t11 w =>
 Sto P 44 t11 t38 w fun w =>
 Fa P 44 t10 0 w fun t39 w =>
 Ld P 3 t39 w fun t40 w =>
 Bn P .eql 3 true t40 (.int .i64 1) w fun t41 w =>
 Gd t41 true (fun k => Fa P 44 t11 0 w k) w fun t43 w =>
 Gd t41 true (fun k => Ld P 3 t43 w k) w fun t44 w =>
 Gd t41 true (fun k => Bn P .eql 3 true t44 (.int .i64 1) w k) w fun t45 w =>
 Gd t41 true (fun k => k t45 w) w fun t46 w =>
 Gd t46 false (fun k => Fa P 44 t11 0 w k) w fun t47 w =>
 Gd t46 false (fun k => Ld P 3 t47 w k) w fun t48 w =>
 Gd t46 false (fun k => Bn P .eql 3 true t48 (.int .i64 7) w k) w fun t49 w =>
 Gd t41 true (fun k => Pick t46 (.bool true) t49 w k) w fun t50 w =>
 Pick t41 t50 (.bool false) w fun t51 w =>
 Gd t51 false (fun k => Fa P 44 t10 0 w k) w fun t53 w =>
 Gd t51 false (fun k => Ld P 3 t53 w k) w fun t54 w =>
 Gd t51 false (fun k => Bn P .eql 3 true t54 (.int .i64 7) w k) w fun t55 w =>
 Gd t51 false (fun k => k t55 w) w fun t56 w =>
 Gd t56 true (fun k => Fa P 44 t11 0 w k) w fun t57 w =>
 Gd t56 true (fun k => Ld P 3 t57 w k) w fun t58 w =>
 Gd t56 true (fun k => Bn P .eql 3 true t58 (.int .i64 1) w k) w fun t59 w =>
 Gd t51 false (fun k => Pick t56 t59 (.bool false) w k) w fun t60 w =>
 Pick t51 (.bool true) t60 w fun t61 w =>
 Gd t61 false (fun k => Fa P 44 t10 5 w k) w fun t63 w =>
 Gd t61 false (fun k => Ld P 3 t63 w k) w fun t64 w =>
 Gd t61 false (fun k => Fa P 44 t11 5 w k) w fun t65 w =>
 Gd t61 false (fun k => Ld P 3 t65 w k) w fun t66 w =>
 Gd t61 false (fun k => Bn P .eql 3 false t64 t66 w k) w fun t67 w =>
 Gd t61 false (fun k => k t67 w) w fun t68 w =>
 Gd t68 true (fun k => Fa P 44 t10 0 w k) w fun t69 w =>
 Gd t68 true (fun k => Ld P 3 t69 w k) w fun t70 w =>
 Gd t68 true (fun k => Bn P .geq 3 true t70 (.int .i64 7) w k) w fun t71 w =>
 Gd t61 false (fun k => Pick t68 t71 (.bool false) w k) w fun t72 w =>
 Gd t61 false (fun k => k t72 w) w fun t73 w =>
 Gd t73 true (fun k => Fa P 44 t11 0 w k) w fun t74 w =>
 Gd t73 true (fun k => Ld P 3 t74 w k) w fun t75 w =>
 Gd t73 true (fun k => Bn P .geq 3 true t75 (.int .i64 7) w k) w fun t76 w =>
 Gd t61 false (fun k => Pick t73 t76 (.bool false) w k) w fun t77 w =>
 Pick t61 (.bool true) t77 w fun t78 w =>
 If t78
 (R (.returned (.bool true)) w)
 (Ld P 30 t9 w fun t80 w =>
 Ld P 44 t10 w fun t81 w =>
 Cl P 13 #[t80, t81] w (Pk R) fun t82 w =>
 Ex t82 0 w fun t83 w =>
 Ex t82 1 w fun t84 w =>
 Ex t82 2 w fun t85 w =>
 Al P 30 w fun t12 w =>
 Sto P 30 t12 t83 w fun w =>
 Ld P 30 t9 w fun t87 w =>
 Ld P 44 t11 w fun t88 w =>
 Cl P 13 #[t87, t88] w (Pk R) fun t89 w =>
 Ex t89 0 w fun t90 w =>
 Ex t89 1 w fun t91 w =>
 Ex t89 2 w fun t92 w =>
 Al P 30 w fun t15 w =>
 Sto P 30 t15 t90 w fun w =>
 Bn P .neq 31 true t85 (.int .i64 0) w fun t94 w =>
 Gd t94 false (fun k => k t92 w) w fun t96 w =>
 Gd t94 false (fun k => Bn P .neq 31 true t96 (.int .i64 0) w k) w fun t97 w =>
 Pick t94 (.bool true) t97 w fun t98 w =>
 If t98
 (Bn P .eql 31 true t85 (.int .i64 0) w fun t100 w =>
 Gd t100 false (fun k => k t85 w) w fun t102 w =>
 Gd t100 false (fun k => Bn P .eql 31 true t102 (.int .i64 370) w k) w fun t103 w =>
 Pick t100 (.bool true) t103 w fun t104 w =>
 Gd t104 true (fun k => k t92 w) w fun t106 w =>
 Gd t104 true (fun k => Bn P .eql 31 true t106 (.int .i64 0) w k) w fun t107 w =>
 Gd t104 true (fun k => k t107 w) w fun t108 w =>
 Gd t108 false (fun k => k t92 w) w fun t109 w =>
 Gd t108 false (fun k => Bn P .eql 31 true t109 (.int .i64 370) w k) w fun t110 w =>
 Gd t104 true (fun k => Pick t108 (.bool true) t110 w k) w fun t111 w =>
 Pick t104 t111 (.bool false) w fun t112 w =>
 R (.returned t112) w)
 (Ld P 30 t12 w fun t114 w =>
 Ld P 44 t11 w fun t115 w =>
 Cl P 13 #[t114, t115] w (Pk R) fun t116 w =>
 Ex t116 0 w fun t117 w =>
 Ex t116 1 w fun t118 w =>
 Ex t116 2 w fun t119 w =>
 Al P 30 w fun t18 w =>
 Sto P 30 t18 t117 w fun w =>
 Ld P 30 t15 w fun t121 w =>
 Ld P 44 t10 w fun t122 w =>
 Cl P 13 #[t121, t122] w (Pk R) fun t123 w =>
 Ex t123 0 w fun t124 w =>
 Ex t123 1 w fun t125 w =>
 Ex t123 2 w fun t126 w =>
 Al P 30 w fun t21 w =>
 Sto P 30 t21 t124 w fun w =>
 Bn P .neq 31 true t119 (.int .i64 0) w fun t128 w =>
 Gd t128 false (fun k => k t126 w) w fun t130 w =>
 Gd t128 false (fun k => Bn P .neq 31 true t130 (.int .i64 0) w k) w fun t131 w =>
 Pick t128 (.bool true) t131 w fun t132 w =>
 If t132
 (R (.returned (.bool true)) w)
 (Ld P 30 t18 w fun t134 w =>
 Cl P 16 #[t134] w (Pk R) fun t135 w =>
 Ex t135 0 w fun t136 w =>
 Ex t135 1 w fun t137 w =>
 Ld P 30 t21 w fun t139 w =>
 Cl P 16 #[t139] w (Pk R) fun t140 w =>
 Ex t140 0 w fun t141 w =>
 Ex t140 1 w fun t142 w =>
 Bn P .eql 31 true t137 (.int .i64 0) w fun t144 w =>
 Gd t144 true (fun k => k t142 w) w fun t146 w =>
 Gd t144 true (fun k => Bn P .eql 31 true t146 (.int .i64 0) w k) w fun t147 w =>
 Pick t144 t147 (.bool false) w fun t148 w =>
 Gd t148 true (fun k => k t136 w) w fun t150 w =>
 Gd t148 true (fun k => k t141 w) w fun t151 w =>
 Gd t148 true (fun k => Cl P 18 #[t150, t151] w (Pk R) k) w fun t152 w =>
 Pick t148 t152 (.bool false) w fun t153 w =>
 Gd t153 true (fun k => k t84 w) w fun t155 w =>
 Gd t153 true (fun k => k t125 w) w fun t156 w =>
 Gd t153 true (fun k => Cl P 18 #[t155, t156] w (Pk R) k) w fun t157 w =>
 Pick t153 t157 (.bool false) w fun t158 w =>
 Gd t158 true (fun k => k t91 w) w fun t160 w =>
 Gd t158 true (fun k => k t118 w) w fun t161 w =>
 Gd t158 true (fun k => Cl P 18 #[t160, t161] w (Pk R) k) w fun t162 w =>
 Pick t158 t162 (.bool false) w fun t163 w =>
 R (.returned t163) w))))
theorem e_law37_ShardApart (h : s_law37_ShardApart Tryz.prog t0 t1 t2 t3 w R) : Calls Tryz.prog 6 #[t0, t1, t2, t3] w R :=
 en1 (.sq .z (.sq (.sq .z (.cd (.sq .z .z) .z)) (.sq .z (.sq .z (.sq .z (.sq (.sq .z (.cd (.sq .z .z) .z)) (.sq .z (.sq .z (.sq (.sq .z (.cd (.sq .z .z) .z)) (.sq .z (.sq .z (.sq (.sq .z (.cd (.sq .z .z) .z)) (.sq .z (.sq .z (.sq .z .z))))))))))))))) [t0, t1, t2, t3] Tryz.func6 (by kernel_rfl) (by kernel_rfl) h
end Go.Proofs.YthdhnhghjecfkaaGreat
